import PyProof.Rows.All
import Wide.All
import OpenK.AllK
import Wide.FinOn
import HandS.Words
import HandS.Base
import HandS.HeadHook1
import HandS.HeadHook2
import HandS.HeadHook3
import HandS.HeadHook4
import HandS.ExcInit
import HandS.ExcField
import HandS.Head0
import HandS.Head1
import HandS.Head2
import HandS.Head3
import HandS.Head4
import KE.KStateDown
import PyZr98
import KE.GoesMore
import HandS.ForSpec
import HandS.Comp
import HandS.Dict
import HandS.Iter
import HandS.Walk
import HandS.HotCalls
import KE.KDictDisplayH
import HandS.CallSlots
import HandS.TupAny
import HandS.IsInst
import HandS.ExcCtx
import HandS.WordsExc
import HandS.Wide
import HandS.Spec
import Lean
import PySem.Challenge.RW_stationstop_s01_answers
set_option Elab.async false
set_option linter.all false
set_option maxRecDepth 100000
/-! ## SQ -/
set_option maxHeartbeats 4000000
/-! the program's text, statement by statement; how many arguments a door has -/
namespace SP
open PySem
def topS (i : Nat) : Stmt := PySem.Challenge.pw_stationstop_s01_answers.main.body.getD i (.Pass ⟨0, 0, 0, 0⟩)
def sizes : List Nat := [2, 4, 1, 4, 4, 4, 4, 4, 2, 2, 2, 1, 5, 2, 2, 2, 1, 3, 1]
end SP

/-! ## F1 -/
set_option maxHeartbeats 0
/-! what is read off the run of the top -/
namespace SPH
open PySem PySem.Spec PyProof.Rows L2 SB SP
def d_divisor : He.DefD := ⟨("divisor", none), "divisor", "divisor", defArgs (topS 3), defBody (topS 3), defScope (topS 3), [], []⟩
def d_fraction : He.DefD := ⟨("fraction", none), "fraction", "fraction", defArgs (topS 4), defBody (topS 4), defScope (topS 4), [], []⟩
def d_less : He.DefD := ⟨("less", none), "less", "less", defArgs (topS 5), defBody (topS 5), defScope (topS 5), [], []⟩
def d_times : He.DefD := ⟨("times", none), "times", "times", defArgs (topS 6), defBody (topS 6), defScope (topS 6), [], []⟩
def d_over : He.DefD := ⟨("over", none), "over", "over", defArgs (topS 7), defBody (topS 7), defScope (topS 7), [], []⟩
def d_is_below : He.DefD := ⟨("is_below", none), "is_below", "is_below", defArgs (topS 8), defBody (topS 8), defScope (topS 8), [], []⟩
def d_reached : He.DefD := ⟨("reached", none), "reached", "reached", defArgs (topS 9), defBody (topS 9), defScope (topS 9), [], []⟩
def d_recurrent : He.DefD := ⟨("recurrent", none), "recurrent", "recurrent", defArgs (topS 10), defBody (topS 10), defScope (topS 10), [], []⟩
def d_has_single_class : He.DefD := ⟨("has_single_class", none), "has_single_class", "has_single_class", defArgs (topS 11), defBody (topS 11), defScope (topS 11), [], []⟩
def d_can_meet : He.DefD := ⟨("can_meet", none), "can_meet", "can_meet", defArgs (topS 12), defBody (topS 12), defScope (topS 12), [], []⟩
def d_is_periodic : He.DefD := ⟨("is_periodic", none), "is_periodic", "is_periodic", defArgs (topS 13), defBody (topS 13), defScope (topS 13), [], []⟩
def d_leads_to : He.DefD := ⟨("leads_to", none), "leads_to", "leads_to", defArgs (topS 14), defBody (topS 14), defScope (topS 14), [], []⟩
def d_tree_weight : He.DefD := ⟨("tree_weight", none), "tree_weight", "tree_weight", defArgs (topS 15), defBody (topS 15), defScope (topS 15), [], []⟩
def d_Drawn___init__ : He.DefD := ⟨("Drawn", some "__init__"), "__init__", "Drawn.__init__", defArgs (inClass (topS 16) 0), defBody (inClass (topS 16) 0), defScope (inClass (topS 16) 0), [], []⟩
def d_Drawn_stationary : He.DefD := ⟨("Drawn", some "stationary"), "stationary", "Drawn.stationary", defArgs (inClass (topS 16) 1), defBody (inClass (topS 16) 1), defScope (inClass (topS 16) 1), [], []⟩
def d_Drawn_distribution : He.DefD := ⟨("Drawn", some "distribution"), "distribution", "Drawn.distribution", defArgs (inClass (topS 16) 2), defBody (inClass (topS 16) 2), defScope (inClass (topS 16) 2), [], []⟩
def d_Drawn_probability_of : He.DefD := ⟨("Drawn", some "probability_of"), "probability_of", "Drawn.probability_of", defArgs (inClass (topS 16) 3), defBody (inClass (topS 16) 3), defScope (inClass (topS 16) 3), [], []⟩
def d_Drawn_state_behind : He.DefD := ⟨("Drawn", some "state_behind"), "state_behind", "Drawn.state_behind", defArgs (inClass (topS 16) 4), defBody (inClass (topS 16) 4), defScope (inClass (topS 16) 4), [], []⟩
def d_Rule___init__ : He.DefD := ⟨("Rule", some "__init__"), "__init__", "Rule.__init__", defArgs (inClass (topS 17) 0), defBody (inClass (topS 17) 0), defScope (inClass (topS 17) 0), [], []⟩
def d_Rule_coverage : He.DefD := ⟨("Rule", some "coverage"), "coverage", "Rule.coverage", defArgs (inClass (topS 17) 1), defBody (inClass (topS 17) 1), defScope (inClass (topS 17) 1), [], []⟩
def d_Rule_separation : He.DefD := ⟨("Rule", some "separation"), "separation", "Rule.separation", defArgs (inClass (topS 17) 2), defBody (inClass (topS 17) 2), defScope (inClass (topS 17) 2), [], []⟩
def d_Rule_unstopped : He.DefD := ⟨("Rule", some "unstopped"), "unstopped", "Rule.unstopped", defArgs (inClass (topS 17) 3), defBody (inClass (topS 17) 3), defScope (inClass (topS 17) 3), [], []⟩
def d_Rule_stops : He.DefD := ⟨("Rule", some "stops"), "stops", "Rule.stops", defArgs (inClass (topS 17) 4), defBody (inClass (topS 17) 4), defScope (inClass (topS 17) 4), [], []⟩
def d_Rule_stop_at : He.DefD := ⟨("Rule", some "stop_at"), "stop_at", "Rule.stop_at", defArgs (inClass (topS 17) 5), defBody (inClass (topS 17) 5), defScope (inClass (topS 17) 5), [], []⟩
def d_Rule_may_continue : He.DefD := ⟨("Rule", some "may_continue"), "may_continue", "Rule.may_continue", defArgs (inClass (topS 17) 6), defBody (inClass (topS 17) 6), defScope (inClass (topS 17) 6), [], []⟩
def d_Refused___init__ : He.DefD := ⟨("Refused", some "__init__"), "__init__", "Refused.__init__", defArgs (inClass (topS 22) 0), defBody (inClass (topS 22) 0), defScope (inClass (topS 22) 0), [], []⟩
def d_refuse : He.DefD := ⟨("refuse", none), "refuse", "refuse", defArgs (topS 23), defBody (topS 23), defScope (topS 23), [], []⟩
def d_is_integer : He.DefD := ⟨("is_integer", none), "is_integer", "is_integer", defArgs (topS 24), defBody (topS 24), defScope (topS 24), [], []⟩
def d_Nothing___init__ : He.DefD := ⟨("Nothing", some "__init__"), "__init__", "Nothing.__init__", defArgs (inClass (topS 25) 0), defBody (inClass (topS 25) 0), defScope (inClass (topS 25) 0), [], []⟩
def d_Text___init__ : He.DefD := ⟨("Text", some "__init__"), "__init__", "Text.__init__", defArgs (inClass (topS 26) 0), defBody (inClass (topS 26) 0), defScope (inClass (topS 26) 0), [], []⟩
def d_Record___init__ : He.DefD := ⟨("Record", some "__init__"), "__init__", "Record.__init__", defArgs (inClass (topS 27) 0), defBody (inClass (topS 27) 0), defScope (inClass (topS 27) 0), [], []⟩
def d_octets_of : He.DefD := ⟨("octets_of", none), "octets_of", "octets_of", defArgs (topS 28), defBody (topS 28), defScope (topS 28), [], []⟩
def d_record : He.DefD := ⟨("record", none), "record", "record", defArgs (topS 29), defBody (topS 29), defScope (topS 29), [], []⟩
def d_number_in : He.DefD := ⟨("number_in", none), "number_in", "number_in", defArgs (topS 30), defBody (topS 30), defScope (topS 30), [], []⟩
def d_number_out : He.DefD := ⟨("number_out", none), "number_out", "number_out", defArgs (topS 31), defBody (topS 31), defScope (topS 31), [], []⟩
def d_Row___init__ : He.DefD := ⟨("Row", some "__init__"), "__init__", "Row.__init__", defArgs (inClass (topS 32) 0), defBody (inClass (topS 32) 0), defScope (inClass (topS 32) 0), [], []⟩
def d_Row_take : He.DefD := ⟨("Row", some "take"), "take", "Row.take", defArgs (inClass (topS 32) 1), defBody (inClass (topS 32) 1), defScope (inClass (topS 32) 1), [], []⟩
def d_Row_count : He.DefD := ⟨("Row", some "count"), "count", "Row.count", defArgs (inClass (topS 32) 2), defBody (inClass (topS 32) 2), defScope (inClass (topS 32) 2), [], []⟩
def d_Row_one_value : He.DefD := ⟨("Row", some "one_value"), "one_value", "Row.one_value", defArgs (inClass (topS 32) 3), defBody (inClass (topS 32) 3), defScope (inClass (topS 32) 3), [], []⟩
def d_read_request : He.DefD := ⟨("read_request", none), "read_request", "read_request", defArgs (topS 33), defBody (topS 33), defScope (topS 33), [], []⟩
def d_text_out : He.DefD := ⟨("text_out", none), "text_out", "text_out", defArgs (topS 34), defBody (topS 34), defScope (topS 34), [], []⟩
def d_value_out : He.DefD := ⟨("value_out", none), "value_out", "value_out", defArgs (topS 35), defBody (topS 35), defScope (topS 35), [], []⟩
def d_text_of : He.DefD := ⟨("text_of", none), "text_of", "text_of", defArgs (topS 40), defBody (topS 40), defScope (topS 40), [], []⟩
def d_is_text : He.DefD := ⟨("is_text", none), "is_text", "is_text", defArgs (topS 41), defBody (topS 41), defScope (topS 41), [], []⟩
def d_letter_in : He.DefD := ⟨("letter_in", none), "letter_in", "letter_in", defArgs (topS 42), defBody (topS 42), defScope (topS 42), [], []⟩
def d_Walk___init__ : He.DefD := ⟨("Walk", some "__init__"), "__init__", "Walk.__init__", defArgs (inClass (topS 43) 0), defBody (inClass (topS 43) 0), defScope (inClass (topS 43) 0), [], []⟩
def d_Walk_is_running : He.DefD := ⟨("Walk", some "is_running"), "is_running", "Walk.is_running", defArgs (inClass (topS 43) 1), defBody (inClass (topS 43) 1), defScope (inClass (topS 43) 1), [], []⟩
def d_Walk_state : He.DefD := ⟨("Walk", some "state"), "state", "Walk.state", defArgs (inClass (topS 43) 2), defBody (inClass (topS 43) 2), defScope (inClass (topS 43) 2), [], []⟩
def d_Walk_report : He.DefD := ⟨("Walk", some "report"), "report", "Walk.report", defArgs (inClass (topS 43) 3), defBody (inClass (topS 43) 3), defScope (inClass (topS 43) 3), [], []⟩
def d_Walk_go_on : He.DefD := ⟨("Walk", some "go_on"), "go_on", "Walk.go_on", defArgs (inClass (topS 43) 4), defBody (inClass (topS 43) 4), defScope (inClass (topS 43) 4), [], []⟩
def d_Walk_signal : He.DefD := ⟨("Walk", some "signal"), "signal", "Walk.signal", defArgs (inClass (topS 43) 5), defBody (inClass (topS 43) 5), defScope (inClass (topS 43) 5), [], []⟩
def d_words_to : He.DefD := ⟨("words_to", none), "words_to", "words_to", defArgs (topS 44), defBody (topS 44), defScope (topS 44), [], []⟩
def d_Enumeration___init__ : He.DefD := ⟨("Enumeration", some "__init__"), "__init__", "Enumeration.__init__", defArgs (inClass (topS 45) 0), defBody (inClass (topS 45) 0), defScope (inClass (topS 45) 0), [], []⟩
def d_Enumeration_advance : He.DefD := ⟨("Enumeration", some "advance"), "advance", "Enumeration.advance", defArgs (inClass (topS 45) 1), defBody (inClass (topS 45) 1), defScope (inClass (topS 45) 1), [], []⟩
def d_Enumeration_go_on : He.DefD := ⟨("Enumeration", some "go_on"), "go_on", "Enumeration.go_on", defArgs (inClass (topS 45) 2), defBody (inClass (topS 45) 2), defScope (inClass (topS 45) 2), [], []⟩
def d_Enumeration_signal : He.DefD := ⟨("Enumeration", some "signal"), "signal", "Enumeration.signal", defArgs (inClass (topS 45) 3), defBody (inClass (topS 45) 3), defScope (inClass (topS 45) 3), [], []⟩
def d_Enumeration_finish : He.DefD := ⟨("Enumeration", some "finish"), "finish", "Enumeration.finish", defArgs (inClass (topS 45) 4), defBody (inClass (topS 45) 4), defScope (inClass (topS 45) 4), [], []⟩
def d_Enumeration_collect : He.DefD := ⟨("Enumeration", some "collect"), "collect", "Enumeration.collect", defArgs (inClass (topS 45) 5), defBody (inClass (topS 45) 5), defScope (inClass (topS 45) 5), [], []⟩
def d_Slots___init__ : He.DefD := ⟨("Slots", some "__init__"), "__init__", "Slots.__init__", defArgs (inClass (topS 49) 0), defBody (inClass (topS 49) 0), defScope (inClass (topS 49) 0), [], []⟩
def d_is_state_number : He.DefD := ⟨("is_state_number", none), "is_state_number", "is_state_number", defArgs (topS 50), defBody (topS 50), defScope (topS 50), [], []⟩
def d_chain_in : He.DefD := ⟨("chain_in", none), "chain_in", "chain_in", defArgs (topS 51), defBody (topS 51), defScope (topS 51), [], []⟩
def d_is_fraction : He.DefD := ⟨("is_fraction", none), "is_fraction", "is_fraction", defArgs (topS 52), defBody (topS 52), defScope (topS 52), [], []⟩
def d_drawn_in : He.DefD := ⟨("drawn_in", none), "drawn_in", "drawn_in", defArgs (topS 53), defBody (topS 53), defScope (topS 53), [], []⟩
def d_started_in : He.DefD := ⟨("started_in", none), "started_in", "started_in", defArgs (topS 54), defBody (topS 54), defScope (topS 54), [], []⟩
def d_rule_in : He.DefD := ⟨("rule_in", none), "rule_in", "rule_in", defArgs (topS 55), defBody (topS 55), defScope (topS 55), [], []⟩
def d_check_steps : He.DefD := ⟨("check_steps", none), "check_steps", "check_steps", defArgs (topS 56), defBody (topS 56), defScope (topS 56), [], []⟩
def d_told_fractions : He.DefD := ⟨("told_fractions", none), "told_fractions", "told_fractions", defArgs (topS 57), defBody (topS 57), defScope (topS 57), [], []⟩
def d_stationary_distribution : He.DefD := ⟨("stationary_distribution", none), "stationary_distribution", "stationary_distribution", defArgs (topS 58), defBody (topS 58), defScope (topS 58), [], []⟩
def d_distribution : He.DefD := ⟨("distribution", none), "distribution", "distribution", defArgs (topS 59), defBody (topS 59), defScope (topS 59), [], []⟩
def d_is_ergodic : He.DefD := ⟨("is_ergodic", none), "is_ergodic", "is_ergodic", defArgs (topS 60), defBody (topS 60), defScope (topS 60), [], []⟩
def d_rule_with_steps : He.DefD := ⟨("rule_with_steps", none), "rule_with_steps", "rule_with_steps", defArgs (topS 61), defBody (topS 61), defScope (topS 61), [], []⟩
def d_separation : He.DefD := ⟨("separation", none), "separation", "separation", defArgs (topS 62), defBody (topS 62), defScope (topS 62), [], []⟩
def d_stop_probabilities : He.DefD := ⟨("stop_probabilities", none), "stop_probabilities", "stop_probabilities", defArgs (topS 63), defBody (topS 63), defScope (topS 63), [], []⟩
def d_unstopped_probabilities : He.DefD := ⟨("unstopped_probabilities", none), "unstopped_probabilities", "unstopped_probabilities", defArgs (topS 64), defBody (topS 64), defScope (topS 64), [], []⟩
def d_mixing_time : He.DefD := ⟨("mixing_time", none), "mixing_time", "mixing_time", defArgs (topS 65), defBody (topS 65), defScope (topS 65), [], []⟩
def d_walk_new : He.DefD := ⟨("walk_new", none), "walk_new", "walk_new", defArgs (topS 66), defBody (topS 66), defScope (topS 66), [], []⟩
def d_value_done : He.DefD := ⟨("value_done", none), "value_done", "value_done", defArgs (topS 67), defBody (topS 67), defScope (topS 67), [], []⟩
def d_walk_next : He.DefD := ⟨("walk_next", none), "walk_next", "walk_next", defArgs (topS 68), defBody (topS 68), defScope (topS 68), [], []⟩
def d_walk_signal : He.DefD := ⟨("walk_signal", none), "walk_signal", "walk_signal", defArgs (topS 69), defBody (topS 69), defScope (topS 69), [], []⟩
def d_walk_finish : He.DefD := ⟨("walk_finish", none), "walk_finish", "walk_finish", defArgs (topS 70), defBody (topS 70), defScope (topS 70), [], []⟩
def d_walk_close : He.DefD := ⟨("walk_close", none), "walk_close", "walk_close", defArgs (topS 71), defBody (topS 71), defScope (topS 71), [], []⟩
def d_enumeration_new : He.DefD := ⟨("enumeration_new", none), "enumeration_new", "enumeration_new", defArgs (topS 72), defBody (topS 72), defScope (topS 72), [], []⟩
def d_enumeration_next : He.DefD := ⟨("enumeration_next", none), "enumeration_next", "enumeration_next", defArgs (topS 73), defBody (topS 73), defScope (topS 73), [], []⟩
def d_enumeration_signal : He.DefD := ⟨("enumeration_signal", none), "enumeration_signal", "enumeration_signal", defArgs (topS 74), defBody (topS 74), defScope (topS 74), [], []⟩
def d_enumeration_finish : He.DefD := ⟨("enumeration_finish", none), "enumeration_finish", "enumeration_finish", defArgs (topS 75), defBody (topS 75), defScope (topS 75), [], []⟩
def d_enumeration_collect : He.DefD := ⟨("enumeration_collect", none), "enumeration_collect", "enumeration_collect", defArgs (topS 76), defBody (topS 76), defScope (topS 76), [], []⟩
def d_enumeration_together : He.DefD := ⟨("enumeration_together", none), "enumeration_together", "enumeration_together", defArgs (topS 77), defBody (topS 77), defScope (topS 77), [], []⟩
def d_enumeration_close : He.DefD := ⟨("enumeration_close", none), "enumeration_close", "enumeration_close", defArgs (topS 78), defBody (topS 78), defScope (topS 78), [], []⟩
def d_answer_of : He.DefD := ⟨("answer_of", none), "answer_of", "answer_of", defArgs (topS 81), defBody (topS 81), defScope (topS 81), [], []⟩
def d_answers : He.DefD := ⟨("answers", none), "answers", "answers", defArgs (topS 82), defBody (topS 82), defScope (topS 82), [], []⟩
def fn0 : List He.DefD := [d_divisor, d_fraction, d_less, d_times, d_over, d_is_below, d_reached, d_recurrent, d_has_single_class, d_can_meet, d_is_periodic, d_leads_to, d_tree_weight, d_Drawn___init__, d_Drawn_stationary, d_Drawn_distribution, d_Drawn_probability_of, d_Drawn_state_behind, d_Rule___init__, d_Rule_coverage, d_Rule_separation, d_Rule_unstopped, d_Rule_stops, d_Rule_stop_at, d_Rule_may_continue]
def fn1 : List He.DefD := [d_Refused___init__, d_refuse, d_is_integer, d_Nothing___init__, d_Text___init__, d_Record___init__, d_octets_of, d_record, d_number_in, d_number_out, d_Row___init__, d_Row_take, d_Row_count, d_Row_one_value, d_read_request, d_text_out, d_value_out, d_text_of, d_is_text, d_letter_in, d_Walk___init__, d_Walk_is_running, d_Walk_state, d_Walk_report, d_Walk_go_on]
def fn2 : List He.DefD := [d_Walk_signal, d_words_to, d_Enumeration___init__, d_Enumeration_advance, d_Enumeration_go_on, d_Enumeration_signal, d_Enumeration_finish, d_Enumeration_collect, d_Slots___init__, d_is_state_number, d_chain_in, d_is_fraction, d_drawn_in, d_started_in, d_rule_in, d_check_steps, d_told_fractions, d_stationary_distribution, d_distribution, d_is_ergodic, d_rule_with_steps, d_separation, d_stop_probabilities, d_unstopped_probabilities, d_mixing_time]
def fn3 : List He.DefD := [d_walk_new, d_value_done, d_walk_next, d_walk_signal, d_walk_finish, d_walk_close, d_enumeration_new, d_enumeration_next, d_enumeration_signal, d_enumeration_finish, d_enumeration_collect, d_enumeration_together, d_enumeration_close, d_answer_of, d_answers]
def fn : List He.DefD := fn0 ++ fn1 ++ fn2 ++ fn3
def fa0 : List He.Fa := [.glo "divisor", .glo "fraction", .glo "less", .glo "times", .glo "over", .glo "is_below", .glo "reached", .glo "recurrent", .glo "has_single_class", .glo "can_meet", .glo "is_periodic", .glo "leads_to", .glo "tree_weight", .glo "refuse", .glo "is_integer", .glo "octets_of", .glo "record", .glo "number_in", .glo "number_out", .glo "read_request", .glo "text_out", .glo "value_out", .glo "text_of", .glo "is_text", .glo "letter_in"]
def fa1 : List He.Fa := [.glo "words_to", .glo "is_state_number", .glo "chain_in", .glo "is_fraction", .glo "drawn_in", .glo "started_in", .glo "rule_in", .glo "check_steps", .glo "told_fractions", .glo "stationary_distribution", .glo "distribution", .glo "is_ergodic", .glo "rule_with_steps", .glo "separation", .glo "stop_probabilities", .glo "unstopped_probabilities", .glo "mixing_time", .glo "walk_new", .glo "value_done", .glo "walk_next", .glo "walk_signal", .glo "walk_finish", .glo "walk_close", .glo "enumeration_new", .glo "enumeration_next"]
def fa2 : List He.Fa := [.glo "enumeration_signal", .glo "enumeration_finish", .glo "enumeration_collect", .glo "enumeration_together", .glo "enumeration_close", .glo "answer_of", .glo "answers", .glo "Drawn", .glo "Rule", .glo "Nothing", .glo "Text", .glo "Record", .glo "Row", .glo "Walk", .glo "Enumeration", .glo "Slots", .glo "Refused", .glo "ZERO", .glo "ONE", .glo "LETTERS", .glo "SIZES", .glo "DOORS", .int "WRAP" 18446744073709551616, .int "WRONG_KIND" 1, .int "OUT_OF_RANGE" 2]
def fa3 : List He.Fa := [.int "MOST_LETTERS" 8, .int "MOST_LENGTH" 4, .int "MOST_STATES" 3, .int "MOST_STEPS" 8, .free "len", .free "isinstance", .free "abs", .free "all", .free "sum", .free "ord", .free "str", .free "list", .free "tuple", .free "range", .free "enumerate", .free "zip", .free "reversed", .free "int", .free "ValueError", .cls "Drawn", .noat "Drawn" "chain", .noat "Drawn" "below", .noat "Drawn" "weights", .mkr "Drawn", .cls "Rule"]
def fa4 : List He.Fa := [.noat "Rule" "drawn", .noat "Rule" "start", .noat "Rule" "rates", .noat "Rule" "coverages", .mkr "Rule", .cls "Nothing", .noat "Nothing" "octets", .mkr "Nothing", .cls "Text", .noat "Text" "octets", .mkr "Text", .cls "Record", .noat "Record" "members", .mkr "Record", .cls "Row", .noat "Row" "octets", .noat "Row" "place", .mkr "Row", .cls "Walk", .noat "Walk" "rule", .noat "Walk" "word", .noat "Walk" "is_started", .noat "Walk" "is_finished", .mkr "Walk", .cls "Enumeration"]
def fa5 : List He.Fa := [.noat "Enumeration" "rule", .noat "Enumeration" "remaining", .noat "Enumeration" "many", .noat "Enumeration" "last", .noat "Enumeration" "is_finished", .mkr "Enumeration", .cls "Slots", .noat "Slots" "walks", .noat "Slots" "enumerations", .mkr "Slots", .noat "Refused" "kind", .noat "Refused" "message", .exm "Refused" "Refused" true, .keep "Refused", .meth "Drawn" "stationary", .meth "Drawn" "distribution", .meth "Drawn" "probability_of", .meth "Drawn" "state_behind", .meth "Rule" "coverage", .meth "Rule" "separation", .meth "Rule" "unstopped", .meth "Rule" "stops", .meth "Rule" "stop_at", .meth "Rule" "may_continue", .meth "Row" "take"]
def fa6 : List He.Fa := [.meth "Row" "count", .meth "Row" "one_value", .meth "Walk" "is_running", .meth "Walk" "state", .meth "Walk" "report", .meth "Walk" "go_on", .meth "Walk" "signal", .meth "Enumeration" "advance", .meth "Enumeration" "go_on", .meth "Enumeration" "signal", .meth "Enumeration" "finish", .meth "Enumeration" "collect"]
def fa : List He.Fa := fa0 ++ fa1 ++ fa2 ++ fa3 ++ fa4 ++ fa5 ++ fa6
def doorN : List Str := ["stationary_distribution", "distribution", "is_ergodic", "separation", "stop_probabilities", "unstopped_probabilities", "mixing_time", "walk_new", "walk_next", "walk_signal", "walk_finish", "walk_close", "enumeration_new", "enumeration_next", "enumeration_signal", "enumeration_finish", "enumeration_collect", "enumeration_together", "enumeration_close"]
def clsN : List Str := ["Nothing", "Text", "Record"]
def objB (K : PySem.W.Frag) (x : Str) : Bool := decide (PySem.W.findIn K (.ref (He.ga K x)) "__class__" = some (some (.builtin "object.__class__"))) && (decide (PySem.W.specialIn K (.builtin "object.__class__") "__get__" = some (some (.builtin "getset_descriptor.__get__"))) && (decide (PySem.W.takesIn K (.builtin "object.__class__") = some true) && decide (PySem.W.mroIn K (He.ga K x) (.type "object") = some true)))
def kbN : List String := ["NoneType", "bool", "int", "str", "list"]
def koN : List String := ["int", "str", "list"]
def kitBB (K : PySem.W.Frag) : Bool := kbN.all fun t => clsN.all fun x => decide (PySem.W.kitOne K (.type t) (.ref (He.ga K x)) = some false)
def kitOB (K : PySem.W.Frag) : Bool := koN.all fun t => clsN.all fun x => decide (PySem.W.kitOne K (.ref (He.ga K x)) (.type t) = some false)
def kitEB (K : PySem.W.Frag) : Bool := clsN.all fun x => clsN.all fun y => decide (x = y) || decide (PySem.W.kitOne K (.ref (He.ga K x)) (.ref (He.ga K y)) = some false)
def neN : List (Str × Str) := [("Nothing", "Text"), ("Nothing", "Record"), ("Text", "Record"), ("Walk", "Rule"), ("Walk", "Drawn"), ("Enumeration", "Rule"), ("Enumeration", "Drawn"), ("Slots", "Rule"), ("Slots", "Drawn"), ("Walk", "Enumeration"), ("Walk", "Slots"), ("Enumeration", "Slots")]
def neB (K : PySem.W.Frag) : Bool := neN.all fun p => decide (He.ga K p.1 ≠ He.ga K p.2)
def zeroD : List He.Dv := [.int 0, .int 1]
def oneD : List He.Dv := [.int 1, .int 1]
def lettersD : List He.Dv := [.int 97, .int 98]
def sizesD : List He.Dv := sizes.map fun (n : Nat) => .int n
def doorsD : List He.Dv := doorN.map .glo
def tupsB (K : PySem.W.Frag) : Bool := He.tupB K "ZERO" zeroD && (He.tupB K "ONE" oneD && (He.tupB K "LETTERS" lettersD && (He.tupB K "SIZES" sizesD && He.tupB K "DOORS" doorsD)))
/-- the class of the refusals -/
def mroB (C : Addr) : List Value → Bool
  | .ref c :: bm => decide (c = C) && PySem.HandSPX.refsVE bm
  | _ => false
def newB : List (Option Value) → Bool
  | [_, _, _, _, some (.builtin n), _] => decide (n = "ValueError.__new__")
  | _ => false
def ownB (K : PySem.W.Frag) (C : Addr) : Bool := match K.lookup C with
  | some ⟨.type t, _, .cls cd, sl⟩ => decide (t = "type") && (cd.hasDict && (!cd.hasDel && (mroB C cd.mro && newB sl.toList)))
  | _ => false
theorem mroB_ok {C : Addr} {l : List Value} (h : mroB C l = true) : ∃ bm, l = .ref C :: bm ∧ PySem.HandSPX.refsVE bm = true := by
  unfold mroB at h
  split at h
  · rename_i c bm
    obtain ⟨h1, h2⟩ := He.ba h
    exact ⟨bm, by rw [of_decide_eq_true h1], h2⟩
  · cases h
theorem newB_ok {l : List (Option Value)} (h : newB l = true) : ∃ k0 k1 k2 k3 k5, l = [k0, k1, k2, k3, some (.builtin "ValueError.__new__"), k5] := by
  unfold newB at h
  split at h
  · rename_i k0 k1 k2 k3 n k5
    exact ⟨k0, k1, k2, k3, k5, by rw [of_decide_eq_true h]⟩
  · cases h
def refB (K : PySem.W.Frag) (C : Addr) : Bool := He.eqO (PySem.W.findIn K (.ref C) "__setattr__") (some (some (.builtin "object.__setattr__"))) && (decide (PySem.W.subIn K (.ref C) (.type "BaseException") = some true) && (decide (PySem.W.typeIn K (.ref C) = some (.type "type")) && (PySem.W.keepIn K (.ref C) && (xfB K C &&
  (He.eqO (PySem.W.findIn K (.ref C) "__init__") (some (some (.ref (He.ma K C "__init__")))) && decide (PySem.W.typeIn K (.ref (He.ma K C "__init__")) = some (.type "function")))))))
def exB (K : PySem.W.Frag) : Bool := clsN.all (objB K) && (kitBB K && (kitOB K && (kitEB K && (neB K && (tupsB K && (ownB K (He.ga K "Refused") && refB K (He.ga K "Refused")))))))
/-- what the module's names reach in so many steps -/
def nextF (g : Addr → Option Obj) (as : List Addr) : List Addr := as.flatMap fun a => match g a with
  | some o => He.refsD o
  | none => []
def asN (g : Addr → Option Obj) : Nat → List Addr → List Addr
  | 0, f => f
  | n + 1, f => f ++ asN g n (nextF g f)
def obN (g : Addr → Option Obj) : He.AlD × Bool := (He.obsD fa fn (He.frG g (asN g 4 [mainGlobals])), exB (He.frG g (asN g 4 [mainGlobals])))
/-- what is told of a part of the heap behind the run -/
structure Says (K : PySem.W.Frag) : Prop where
  d : He.SaysD fa fn K
  more : exB K = true
def hk : PySem.W.Hook where
  α := He.AlD × Bool
  obs := fun s => obN s.heap.get?
  val := fun _ => (He.valD fn, true)
  says := fun _ h => ∃ K : PySem.W.Frag, K.In h ∧ Says K
  of := fun _ _ e => ⟨_, He.frG_in, ⟨congrArg Prod.fst e, congrArg Prod.snd e⟩⟩
  keeps := fun _ _ _ ⟨K, hK, c⟩ k => ⟨K, PySem.W.Frag.In.keeps hK k, c⟩
end SPH

/-! ## HD1 -/
set_option maxHeartbeats 0
namespace SPH
open PySem PySem.W PySem.Calls PyProof.Rows
abbrev R : OpenSpec := PySem.Challenge.rw_stationstop_s01_answers
abbrev qv : Program := view R.prog [82]
def names0 : List PySem.Str := ["__name__", "ZERO", "ONE", "divisor", "fraction", "less", "times", "over", "is_below", "reached", "recurrent", "has_single_class", "can_meet", "is_periodic", "leads_to", "tree_weight", "Drawn", "Rule", "WRAP", "WRONG_KIND", "OUT_OF_RANGE", "Refused", "refuse", "is_integer", "Nothing", "Text", "Record", "octets_of", "record", "number_in"]
def names1 : List PySem.Str := ["number_out", "Row", "read_request", "text_out", "value_out", "MOST_LETTERS", "MOST_LENGTH", "LETTERS", "text_of", "is_text", "letter_in", "Walk", "words_to", "Enumeration", "MOST_STATES", "MOST_STEPS", "Slots", "is_state_number", "chain_in", "is_fraction", "drawn_in", "started_in", "rule_in", "check_steps", "told_fractions", "stationary_distribution", "distribution", "is_ergodic", "rule_with_steps", "separation"]
def names2 : List PySem.Str := ["stop_probabilities", "unstopped_probabilities", "mixing_time", "walk_new", "value_done", "walk_next", "walk_signal", "walk_finish", "walk_close", "enumeration_new", "enumeration_next", "enumeration_signal", "enumeration_finish", "enumeration_collect", "enumeration_together", "enumeration_close", "SIZES", "DOORS", "answer_of"]
def names : List PySem.Str := names0 ++ names1 ++ names2
def ob (s : PySem.W.SharedT) : He.AlD × Bool := obN (HandSHeadRun.getT s)
theorem ob_eq (s : PySem.W.SharedT) : ob s = hk.obs s.abs := by
  have e : HandSHeadRun.getT s = s.abs.heap.get? := funext (HandSHeadRun.getT_eq s)
  show obN (HandSHeadRun.getT s) = obN s.abs.heap.get?
  rw [e]
theorem run (w : World) : HandSHeadRun.RunEqS R qv hk ob 20000 names w := by
  intro os
  kernel_rfl
end SPH

/-! ## SM1 -/
set_option maxHeartbeats 4000000
/-! The plain law, part 1: chains, reaching, meeting. -/
namespace SS
open R7244e.Spec

/-! ### valid chains and biases -/
def pairsN (n : Nat) : List (Nat × Nat) := (List.range n).flatMap fun a => (List.range n).map fun b => (a, b)
def biases : List Bias := [(1,2),(1,3),(2,3),(1,4),(3,4),(1,5),(2,5),(3,5),(4,5),(1,6),(5,6)]
structure VC (t : Chain) : Prop where
  pos : 1 ≤ t.length
  le : t.length ≤ 3
  lt : ∀ e ∈ t, e.1 < t.length ∧ e.2 < t.length
structure VG (g : Bias) : Prop where
  pos : 0 < g.1
  lt : g.1 < g.2
  le : g.2 ≤ 6
  co : Nat.gcd g.1 g.2 = 1
theorem mem_pairsN {n : Nat} {e : Nat × Nat} : e ∈ pairsN n ↔ e.1 < n ∧ e.2 < n := by
  unfold pairsN
  rw [List.mem_flatMap]
  constructor
  · rintro ⟨a, ha, h⟩
    obtain ⟨b, hb, rfl⟩ := List.mem_map.mp h
    exact ⟨List.mem_range.mp ha, List.mem_range.mp hb⟩
  · intro ⟨h1, h2⟩
    exact ⟨e.1, List.mem_range.mpr h1, List.mem_map.mpr ⟨e.2, List.mem_range.mpr h2, rfl⟩⟩
theorem mem_biases {g : Bias} (h : VG g) : g ∈ biases := by
  obtain ⟨a, b⟩ := g
  obtain ⟨h1, h2, h3, h4⟩ := h
  simp only at h1 h2 h3 h4
  have key : ((List.range 7).all fun b => (List.range 7).all fun a => !(decide (0 < a ∧ a < b) && Nat.gcd a b == 1) || biases.contains (a, b)) = true := by decide +kernel
  have q := List.all_eq_true.mp (List.all_eq_true.mp key b (List.mem_range.mpr (by omega))) a (List.mem_range.mpr (by omega))
  rw [decide_eq_true ⟨h1, h2⟩, h4] at q
  simpa using q
/-- all chains of n states -/
def forChains (n : Nat) (P : Chain → Bool) : Bool := match n with
  | 1 => (pairsN 1).all fun e => P [e]
  | 2 => (pairsN 2).all fun e => (pairsN 2).all fun f => P [e, f]
  | 3 => (pairsN 3).all fun e => (pairsN 3).all fun f => (pairsN 3).all fun h => P [e, f, h]
  | _ => true
theorem forChains_at {P : Chain → Bool} (h1 : forChains 1 P = true) (h2 : forChains 2 P = true) (h3 : forChains 3 P = true) {t : Chain} (v : VC t) : P t = true := by
  obtain ⟨p, l, lt⟩ := v
  match t, p, l, lt with
  | [e], _, _, lt =>
    have q := List.all_eq_true.mp h1 e (mem_pairsN.mpr (lt e (by simp)))
    exact q
  | [e, f], _, _, lt =>
    have q := List.all_eq_true.mp (List.all_eq_true.mp h2 e (mem_pairsN.mpr (lt e (by simp)))) f (mem_pairsN.mpr (lt f (by simp)))
    exact q
  | [e, f, h], _, _, lt =>
    have q := List.all_eq_true.mp (List.all_eq_true.mp (List.all_eq_true.mp h3 e (mem_pairsN.mpr (lt e (by simp)))) f (mem_pairsN.mpr (lt f (by simp)))) h (mem_pairsN.mpr (lt h (by simp)))
    exact q
theorem getD_at {α : Type} {l : List α} {i : Nat} (h : i < l.length) (d : α) : l.getD i d = l[i] := by
  rw [List.getD_eq_getElem?_getD, List.getElem?_eq_getElem h]
  rfl
theorem target0 {t : Chain} {s : Nat} (h : s < t.length) : target t s 0 = t[s].1 := by
  unfold target
  rw [getD_at h]
  rfl
theorem target1 {t : Chain} {s c : Nat} (h : s < t.length) (hc : c ≠ 0) : target t s c = t[s].2 := by
  unfold target
  rw [getD_at h]
  exact if_neg hc
theorem VC.get {t : Chain} (v : VC t) {s : Nat} (h : s < t.length) : t[s]? = some (target t s 0, target t s 1) ∧ target t s 0 < t.length ∧ target t s 1 < t.length := by
  have z := v.lt _ (List.getElem_mem h)
  rw [target0 h, target1 h (by decide)]
  exact ⟨List.getElem?_eq_getElem h, z.1, z.2⟩
theorem VC.tgt {t : Chain} (v : VC t) {s : Nat} (h : s < t.length) (c : Nat) : target t s c < t.length := by
  have z := v.lt _ (List.getElem_mem h)
  by_cases hc : c = 0
  · subst hc
    rw [target0 h]
    exact z.1
  · rw [target1 h hc]
    exact z.2

/-! ### no more than there are -/
theorem nodup_le {α : Type} [DecidableEq α] : ∀ {l m : List α}, l.Nodup → (∀ x ∈ l, x ∈ m) → l.length ≤ m.length
  | [], _, _, _ => Nat.zero_le _
  | a :: l, m, h, s => by
    have ha := s a List.mem_cons_self
    have hn := List.nodup_cons.mp h
    have ih := nodup_le (l := l) (m := m.erase a) hn.2 fun x hx => by
      have ne : x ≠ a := fun e => hn.1 (e ▸ hx)
      exact (List.mem_erase_of_ne ne).mpr (s x (List.mem_cons_of_mem _ hx))
    rw [List.length_erase_of_mem ha] at ih
    have := List.length_pos_of_mem ha
    rw [List.length_cons]
    omega
theorem length_pairsN (n : Nat) : (pairsN n).length = n * n := by
  unfold pairsN
  rw [List.length_flatMap]
  have e : ∀ l : List Nat, (l.map fun a => ((List.range n).map fun b => (a, b)).length).sum = l.length * n := by
    intro l
    induction l with
    | nil => simp
    | cons a l ih => rw [List.map_cons, List.sum_cons, ih, List.length_map, List.length_range, List.length_cons, Nat.succ_mul, Nat.add_comm]
  rw [e, List.length_range]

/-! ### reaching -/
def R (t : Chain) (s x : Nat) : Prop := (reachable t s).contains x = true
def reachChk (t : Chain) : Bool := (List.range t.length).all fun s => (reachable t s).contains s && (reachable t s).all fun x => decide (x < t.length) && ((reachable t s).contains (target t x 0) && (reachable t s).contains (target t x 1))
theorem reachChk1 : forChains 1 reachChk = true := by decide +kernel
theorem reachChk2 : forChains 2 reachChk = true := by decide +kernel
def reachChk3 (e : Nat × Nat) : Bool := (pairsN 3).all fun f => (pairsN 3).all fun h => reachChk [e, f, h]
theorem rc00 : reachChk3 (0, 0) = true := by decide +kernel
theorem rc01 : reachChk3 (0, 1) = true := by decide +kernel
theorem rc02 : reachChk3 (0, 2) = true := by decide +kernel
theorem rc10 : reachChk3 (1, 0) = true := by decide +kernel
theorem rc11 : reachChk3 (1, 1) = true := by decide +kernel
theorem rc12 : reachChk3 (1, 2) = true := by decide +kernel
theorem rc20 : reachChk3 (2, 0) = true := by decide +kernel
theorem rc21 : reachChk3 (2, 1) = true := by decide +kernel
theorem rc22 : reachChk3 (2, 2) = true := by decide +kernel
/-- three states, by the first -/
theorem by_first {P : Chain → Bool} {C : Nat × Nat → Bool} (hC : ∀ e, C e = (pairsN 3).all fun f => (pairsN 3).all fun h => P [e, f, h])
    (h00 : C (0, 0) = true) (h01 : C (0, 1) = true) (h02 : C (0, 2) = true) (h10 : C (1, 0) = true) (h11 : C (1, 1) = true) (h12 : C (1, 2) = true) (h20 : C (2, 0) = true) (h21 : C (2, 1) = true) (h22 : C (2, 2) = true) : forChains 3 P = true := by
  show ((pairsN 3).all fun e => (pairsN 3).all fun f => (pairsN 3).all fun h => P [e, f, h]) = true
  have e3 : pairsN 3 = [(0, 0), (0, 1), (0, 2), (1, 0), (1, 1), (1, 2), (2, 0), (2, 1), (2, 2)] := by decide
  have z : (fun e => (pairsN 3).all fun f => (pairsN 3).all fun h => P [e, f, h]) = C := funext fun e => (hC e).symm
  rw [z, e3]
  simp only [List.all_cons, List.all_nil, h00, h01, h02, h10, h11, h12, h20, h21, h22, Bool.and_self]
theorem reachChk_at {t : Chain} (v : VC t) : reachChk t = true :=
  forChains_at reachChk1 reachChk2 (by_first (fun _ => rfl) rc00 rc01 rc02 rc10 rc11 rc12 rc20 rc21 rc22) v
theorem R_self {t : Chain} (v : VC t) {s : Nat} (h : s < t.length) : R t s s := by
  have q := List.all_eq_true.mp (reachChk_at v) s (List.mem_range.mpr h)
  exact (Bool.and_eq_true_iff.mp q).1
theorem R_mem {t : Chain} {s x : Nat} : R t s x ↔ x ∈ reachable t s := by
  unfold R
  rw [List.contains_iff_mem]
theorem R_step {t : Chain} (v : VC t) {s x : Nat} (h : s < t.length) (r : R t s x) : x < t.length ∧ R t s (target t x 0) ∧ R t s (target t x 1) := by
  have q := List.all_eq_true.mp (reachChk_at v) s (List.mem_range.mpr h)
  have q2 := List.all_eq_true.mp (Bool.and_eq_true_iff.mp q).2 x (R_mem.mp r)
  simp only [Bool.and_eq_true, decide_eq_true_eq] at q2
  exact q2
theorem reachFrom_sound {t : Chain} {S : Nat → Prop} (hS : ∀ x, S x → S (target t x 0) ∧ S (target t x 1)) : ∀ (n : Nat) (l : List Nat), (∀ x ∈ l, S x) → ∀ x ∈ reachFrom t n l, S x
  | 0, _, h, x, hx => h x hx
  | n + 1, l, h, x, hx => by
    refine reachFrom_sound hS n _ (fun y hy => ?_) x hx
    have hy := (List.mem_filter.mp hy).2
    rcases Bool.or_eq_true_iff.mp hy with q | q
    · exact h y (List.contains_iff_mem.mp q)
    · obtain ⟨p, hp, q⟩ := List.any_eq_true.mp q
      obtain ⟨c, hc, q⟩ := List.any_eq_true.mp q
      have e : target t p c = y := by simpa using q
      have hc' : c = 0 ∨ c = 1 := by simpa [alphabet] using hc
      have z := hS p (h p hp)
      rcases hc' with rfl | rfl
      · rw [← e]; exact z.1
      · rw [← e]; exact z.2
theorem R_least {t : Chain} {s : Nat} {S : Nat → Prop} (h0 : S s) (hS : ∀ x, S x → S (target t x 0) ∧ S (target t x 1)) {x : Nat} (r : R t s x) : S x :=
  reachFrom_sound hS t.length [s] (fun y hy => by
    have e : y = s := by simpa using hy
    rw [e]; exact h0) x (R_mem.mp r)
theorem R_trans {t : Chain} (v : VC t) {a b c : Nat} (ha : a < t.length) (h1 : R t a b) (h2 : R t b c) : R t a c :=
  R_least (S := fun x => R t a x) h1 (fun x hx => (R_step v ha hx).2) h2
def addNew (told : List Nat) (x : Nat) : List Nat := if told.contains x then told else told ++ [x]
theorem mem_addNew {told : List Nat} {x y : Nat} : y ∈ addNew told x ↔ y ∈ told ∨ y = x := by
  unfold addNew
  split
  · rename_i h
    have := List.contains_iff_mem.mp h
    constructor
    · exact .inl
    · rintro (h | rfl)
      · exact h
      · exact this
  · simp
theorem nodup_addNew {told : List Nat} {x : Nat} (h : told.Nodup) : (addNew told x).Nodup := by
  unfold addNew
  split
  · exact h
  · rename_i q
    have nm : x ∉ told := fun z => q (List.contains_iff_mem.mpr z)
    rw [List.nodup_append]
    exact ⟨h, by simp, fun a ha b hb => by
      have e : b = x := by simpa using hb
      rw [e]
      exact fun z => nm (z ▸ ha)⟩
theorem prefix_addNew (told : List Nat) (x : Nat) : ∃ r, addNew told x = told ++ r := by
  unfold addNew
  split
  · exact ⟨[], by simp⟩
  · exact ⟨[x], rfl⟩
structure ReachInv (t : Chain) (s : Nat) (told : List Nat) (place : Nat) : Prop where
  mem : s ∈ told
  nd : told.Nodup
  ok : ∀ x ∈ told, x < t.length ∧ R t s x
  done : ∀ i x, i < place → told[i]? = some x → target t x 0 ∈ told ∧ target t x 1 ∈ told
theorem ReachInv.start {t : Chain} (v : VC t) {s : Nat} (h : s < t.length) : ReachInv t s [s] 0 :=
  ⟨by simp, by simp, fun x hx => by
    have e : x = s := by simpa using hx
    subst e
    exact ⟨h, R_self v h⟩, fun i x hi _ => by omega⟩
theorem ReachInv.le {t : Chain} {s place : Nat} {told : List Nat} (i : ReachInv t s told place) : told.length ≤ t.length := by
  have := nodup_le (m := List.range t.length) i.nd fun x hx => List.mem_range.mpr (i.ok x hx).1
  simpa using this
def reachStep (t : Chain) (told : List Nat) (x : Nat) : List Nat := addNew (addNew told (target t x 0)) (target t x 1)
theorem ReachInv.step {t : Chain} (v : VC t) {s place x : Nat} (hs : s < t.length) {told : List Nat} (i : ReachInv t s told place) (h : told[place]? = some x) : ReachInv t s (reachStep t told x) (place + 1) := by
  have hx : x ∈ told := List.mem_of_getElem? h
  have rx := R_step v hs (i.ok x hx).2
  have lx := (i.ok x hx).1
  have g := v.get lx
  refine ⟨?_, nodup_addNew (nodup_addNew i.nd), fun y hy => ?_, fun j y hj hy => ?_⟩
  · exact mem_addNew.mpr (.inl (mem_addNew.mpr (.inl i.mem)))
  · rcases mem_addNew.mp hy with hy | rfl
    · rcases mem_addNew.mp hy with hy | rfl
      · exact i.ok y hy
      · exact ⟨g.2.1, rx.2.1⟩
    · exact ⟨g.2.2, rx.2.2⟩
  · have key : ∀ z, z ∈ told → z ∈ reachStep t told x := fun z hz => mem_addNew.mpr (.inl (mem_addNew.mpr (.inl hz)))
    obtain ⟨r1, e1⟩ := prefix_addNew told (target t x 0)
    obtain ⟨r2, e2⟩ := prefix_addNew (addNew told (target t x 0)) (target t x 1)
    have e : reachStep t told x = told ++ (r1 ++ r2) := by unfold reachStep; rw [e2, e1, List.append_assoc]
    have lp : place < told.length := (List.getElem?_eq_some_iff.mp h).1
    rw [e, List.getElem?_append_left (by omega)] at hy
    by_cases hj' : j < place
    · have z := i.done j y hj' hy
      exact ⟨key _ z.1, key _ z.2⟩
    · have : j = place := by omega
      subst this
      rw [h] at hy
      cases hy
      exact ⟨mem_addNew.mpr (.inl (mem_addNew.mpr (.inr rfl))), mem_addNew.mpr (.inr rfl)⟩
theorem ReachInv.fin {t : Chain} {s place : Nat} {told : List Nat} (i : ReachInv t s told place) (h : told.length ≤ place) (x : Nat) : x ∈ told ↔ R t s x := by
  constructor
  · exact fun hx => (i.ok x hx).2
  · refine R_least (S := fun x => x ∈ told) i.mem fun y hy => ?_
    obtain ⟨j, hj, e⟩ := List.mem_iff_getElem.mp hy
    exact i.done j y (by omega) (by rw [List.getElem?_eq_getElem hj, e])

/-! ### the recurrent states, the single class -/
theorem rec_filter {t : Chain} : recurrentStates t = (List.range t.length).filter fun p => (reachable t p).all fun q => (reachable t q).contains p := rfl
theorem mem_rec {t : Chain} {p : Nat} : p ∈ recurrentStates t ↔ p < t.length ∧ ∀ q, R t p q → R t q p := by
  rw [rec_filter, List.mem_filter, List.mem_range, List.all_eq_true]
  constructor
  · intro ⟨h, q⟩
    exact ⟨h, fun x r => q x (R_mem.mp r)⟩
  · intro ⟨h, q⟩
    exact ⟨h, fun x r => q x (R_mem.mpr r)⟩
theorem one_class {t : Chain} (v : VC t) : ((recurrentStates t).all fun o => (reachable t ((recurrentStates t).getD 0 0)).contains o) = hasOneClass t := by
  unfold hasOneClass
  cases h : recurrentStates t with
  | nil => rfl
  | cons a l =>
    have ha : a ∈ recurrentStates t := by rw [h]; simp
    have Ha := mem_rec.mp ha
    rw [← h]
    have e0 : (recurrentStates t).getD 0 0 = a := by rw [h]; rfl
    rw [e0, Bool.eq_iff_iff, List.all_eq_true, List.all_eq_true]
    constructor
    · intro q p hp
      rw [List.all_eq_true]
      intro o ho
      exact R_trans v (mem_rec.mp hp).1 (Ha.2 p (q p hp)) (q o ho)
    · intro q o ho
      exact List.all_eq_true.mp (q a ha) o ho

/-! ### meeting -/
abbrev Pr := Nat × Nat
def four (t : Chain) (e : Pr) : List Pr := [(target t e.1 0, target t e.2 0), (target t e.1 0, target t e.2 1), (target t e.1 1, target t e.2 0), (target t e.1 1, target t e.2 1)]
theorem four_eq (t : Chain) (e : Pr) : (alphabet.flatMap fun c => alphabet.map fun d => (target t e.1 c, target t e.2 d)) = four t e := rfl
def addTo (z : List Pr) (e : Pr) : List Pr := if z.contains e then z else z ++ [e]
theorem mem_addTo {z : List Pr} {e x : Pr} : x ∈ addTo z e ↔ x ∈ z ∨ x = e := by
  unfold addTo
  split
  · rename_i h
    have := List.contains_iff_mem.mp h
    constructor
    · exact .inl
    · rintro (h | rfl)
      · exact h
      · exact this
  · simp
theorem nodup_addTo {z : List Pr} {e : Pr} (h : z.Nodup) : (addTo z e).Nodup := by
  unfold addTo
  split
  · exact h
  · rename_i q
    have nm : e ∉ z := fun w => q (List.contains_iff_mem.mpr w)
    rw [List.nodup_append]
    exact ⟨h, by simp, fun a ha b hb => by
      have e' : b = e := by simpa using hb
      rw [e']
      exact fun z => nm (z ▸ ha)⟩
theorem mem_addAll : ∀ (l : List Pr) {z : List Pr} {x : Pr}, x ∈ l.foldl addTo z ↔ x ∈ z ∨ x ∈ l
  | [], z, x => by simp
  | e :: l, z, x => by
    rw [List.foldl_cons, mem_addAll l, mem_addTo, List.mem_cons, or_assoc]
theorem nodup_addAll : ∀ (l : List Pr) {z : List Pr}, z.Nodup → (l.foldl addTo z).Nodup
  | [], _, h => h
  | _ :: l, _, h => nodup_addAll l (nodup_addTo h)
theorem len_addTo (z : List Pr) (e : Pr) : z.length ≤ (addTo z e).length := by
  unfold addTo
  split <;> simp
theorem len_addAll : ∀ (l z : List Pr), z.length ≤ (l.foldl addTo z).length
  | [], _ => Nat.le_refl _
  | e :: l, z => Nat.le_trans (len_addTo z e) (len_addAll l _)
theorem eq_addAll : ∀ (l z : List Pr), (l.foldl addTo z).length = z.length → ∀ e ∈ l, e ∈ z
  | [], _, _, _, h => by simp at h
  | a :: l, z, hl, e, h => by
    rw [List.foldl_cons] at hl
    have h1 := len_addTo z a
    have h2 := len_addAll l (addTo z a)
    have e1 : (addTo z a).length = z.length := by omega
    have ha : a ∈ z := by
      unfold addTo at e1
      split at e1
      · rename_i q
        exact List.contains_iff_mem.mp q
      · simp at e1
    have e2 : addTo z a = z := if_pos (List.contains_iff_mem.mpr ha)
    rcases List.mem_cons.mp h with rfl | h
    · exact ha
    · rw [e2] at hl
      exact eq_addAll l z hl e h
def RPstep (t : Chain) (l : List Pr) : List Pr := (l.flatMap (four t)).foldl addTo l
theorem RP_succ (t : Chain) (n : Nat) (l : List Pr) : reachablePairs t (n + 1) l = if (RPstep t l).length = l.length then l else reachablePairs t n (RPstep t l) := rfl
def ClosedP (t : Chain) (S : Pr → Prop) : Prop := ∀ e, S e → ∀ f ∈ four t e, S f
theorem RP_sound {t : Chain} {S : Pr → Prop} (hS : ClosedP t S) : ∀ (n : Nat) (l : List Pr), (∀ e ∈ l, S e) → ∀ e ∈ reachablePairs t n l, S e
  | 0, _, h, e, he => h e he
  | n + 1, l, h, e, he => by
    rw [RP_succ] at he
    split at he
    · exact h e he
    · refine RP_sound hS n _ (fun x hx => ?_) e he
      rcases (mem_addAll _).mp hx with hx | hx
      · exact h x hx
      · obtain ⟨y, hy, hx⟩ := List.mem_flatMap.mp hx
        exact hS y (h y hy) x hx
theorem four_in {t : Chain} (v : VC t) {e : Pr} (h : e ∈ pairsN t.length) : ∀ f ∈ four t e, f ∈ pairsN t.length := fun f hf => by
  have hy := mem_pairsN.mp h
  have a0 := v.tgt hy.1 0
  have a1 := v.tgt hy.1 1
  have b0 := v.tgt hy.2 0
  have b1 := v.tgt hy.2 1
  unfold four at hf
  simp only [List.mem_cons, List.not_mem_nil, or_false] at hf
  rcases hf with rfl | rfl | rfl | rfl
  · exact mem_pairsN.mpr ⟨a0, b0⟩
  · exact mem_pairsN.mpr ⟨a0, b1⟩
  · exact mem_pairsN.mpr ⟨a1, b0⟩
  · exact mem_pairsN.mpr ⟨a1, b1⟩
theorem RP_grow {t : Chain} (v : VC t) : ∀ (n : Nat) (l : List Pr), l.Nodup → (∀ e ∈ l, e ∈ pairsN t.length) →
    (∀ e ∈ l, e ∈ reachablePairs t n l) ∧ ((∀ e ∈ reachablePairs t n l, ∀ f ∈ four t e, f ∈ reachablePairs t n l) ∨ l.length + n ≤ t.length * t.length)
  | 0, l, nd, h => ⟨fun _ h => h, .inr (by have := nodup_le nd h; rw [length_pairsN] at this; omega)⟩
  | n + 1, l, nd, h => by
    have inP : ∀ e ∈ RPstep t l, e ∈ pairsN t.length := fun e he => by
      rcases (mem_addAll _).mp he with he | he
      · exact h e he
      · obtain ⟨y, hy, he⟩ := List.mem_flatMap.mp he
        exact four_in v (h y hy) e he
    rw [RP_succ]
    split
    · rename_i e
      refine ⟨fun _ h => h, .inl fun x hx f hf => ?_⟩
      exact eq_addAll _ l e f (List.mem_flatMap.mpr ⟨x, hx, hf⟩)
    · rename_i e
      have ih := RP_grow v n (RPstep t l) (nodup_addAll _ nd) inP
      have gl := len_addAll (l.flatMap (four t)) l
      have gl' : l.length ≤ (RPstep t l).length := gl
      refine ⟨fun x hx => ih.1 x ((mem_addAll _).mpr (.inl hx)), ?_⟩
      rcases ih.2 with q | q
      · exact .inl q
      · exact .inr (by omega)
theorem RP_closed {t : Chain} (v : VC t) {p q : Nat} (hp : p < t.length) (hq : q < t.length) :
    (p, q) ∈ reachablePairs t (t.length * t.length) [(p, q)] ∧ ∀ e ∈ reachablePairs t (t.length * t.length) [(p, q)], ∀ f ∈ four t e, f ∈ reachablePairs t (t.length * t.length) [(p, q)] := by
  have g := RP_grow v (t.length * t.length) [(p, q)] (by simp) (fun e he => by
    have e' : e = (p, q) := by simpa using he
    subst e'
    exact mem_pairsN.mpr ⟨hp, hq⟩)
  refine ⟨g.1 _ (by simp), ?_⟩
  rcases g.2 with z | z
  · exact z
  · simp at z
    omega
/-- what the search holds between two turns -/
structure MeetInv (t : Chain) (p q : Nat) (seen due : List Pr) : Prop where
  mem : (p, q) ∈ seen
  nd : seen.Nodup
  ok : ∀ e ∈ seen, e ∈ pairsN t.length
  rp : ∀ e ∈ seen, e ∈ reachablePairs t (t.length * t.length) [(p, q)]
  ndd : due.Nodup
  sub : ∀ e ∈ due, e ∈ seen
  done : ∀ e ∈ seen, e ∉ due → e.1 ≠ e.2 ∧ ∀ f ∈ four t e, f ∈ seen
theorem MeetInv.start {t : Chain} (v : VC t) {p q : Nat} (hp : p < t.length) (hq : q < t.length) : MeetInv t p q [(p, q)] [(p, q)] :=
  ⟨by simp, by simp, fun e he => by
    have e' : e = (p, q) := by simpa using he
    subst e'
    exact mem_pairsN.mpr ⟨hp, hq⟩, fun e he => by
    have e' : e = (p, q) := by simpa using he
    subst e'
    exact (RP_closed v hp hq).1, by simp, fun e h => h, fun e h n => absurd h n⟩
theorem MeetInv.le {t : Chain} {p q : Nat} {seen due : List Pr} (i : MeetInv t p q seen due) : seen.length ≤ t.length * t.length ∧ due.length ≤ seen.length := by
  have := nodup_le i.nd i.ok
  rw [length_pairsN] at this
  exact ⟨this, nodup_le i.ndd i.sub⟩
theorem MeetInv.yes {t : Chain} {p q : Nat} {seen due : List Pr} (i : MeetInv t p q seen due) {e : Pr} (h : e ∈ due) (d : e.1 = e.2) : canMeet t p q = true :=
  List.any_eq_true.mpr ⟨e, i.rp e (i.sub e h), by simp [d]⟩
theorem MeetInv.no {t : Chain} {p q : Nat} {seen : List Pr} (i : MeetInv t p q seen []) : canMeet t p q = false := by
  cases h : canMeet t p q with
  | false => rfl
  | true =>
    obtain ⟨e, he, d⟩ := List.any_eq_true.mp h
    have S : e ∈ seen := RP_sound (S := fun e => e ∈ seen) (fun e he f hf => (i.done e he (by simp)).2 f hf) _ [(p, q)] (fun x hx => by
      have e' : x = (p, q) := by simpa using hx
      subst e'
      exact i.mem) e he
    have z := (i.done e S (by simp)).1
    simp at d
    exact absurd d z
/-- a turn: the pair on top is taken off, its four successors are looked at -/
def meetAdd (sd : List Pr × List Pr) (e : Pr) : List Pr × List Pr := if sd.1.contains e then sd else (sd.1 ++ [e], sd.2 ++ [e])
theorem meetAdd_fst (sd : List Pr × List Pr) (e : Pr) : (meetAdd sd e).1 = addTo sd.1 e := by
  unfold meetAdd addTo
  split <;> rfl
theorem meetAdd_step {seen0 : List Pr} {sd : List Pr × List Pr} (e : Pr) (n2 : sd.2.Nodup) (s2 : ∀ x ∈ sd.2, x ∈ sd.1) : (meetAdd sd e).2.Nodup ∧ (∀ x ∈ (meetAdd sd e).2, x ∈ (meetAdd sd e).1) ∧ (∀ x, x ∈ (meetAdd sd e).1 → x ∉ (meetAdd sd e).2 → x ∈ sd.1 ∧ x ∉ sd.2) ∧ (meetAdd sd e).1.length + sd.2.length = sd.1.length + (meetAdd sd e).2.length ∧ sd.1.length ≤ (meetAdd sd e).1.length := by
  unfold meetAdd
  split
  · exact ⟨n2, s2, fun x h n => ⟨h, n⟩, rfl, Nat.le_refl _⟩
  · rename_i q
    have nm : e ∉ sd.1 := fun z => q (List.contains_iff_mem.mpr z)
    refine ⟨?_, fun x hx => ?_, fun x hx n => ?_, by simp; omega, by simp⟩
    · rw [List.nodup_append]
      exact ⟨n2, by simp, fun a ha b hb => by
        have e' : b = e := by simpa using hb
        rw [e']
        exact fun z => nm (z ▸ s2 a ha)⟩
    · rcases List.mem_append.mp hx with hx | hx
      · exact List.mem_append_left _ (s2 x hx)
      · exact List.mem_append_right _ hx
    · simp only [List.mem_append, List.mem_singleton, not_or] at hx n
      rcases hx with hx | hx
      · exact ⟨hx, n.1⟩
      · exact absurd hx n.2
theorem meetAll : ∀ (l : List Pr) (sd : List Pr × List Pr), sd.2.Nodup → (∀ x ∈ sd.2, x ∈ sd.1) →
    (l.foldl meetAdd sd).1 = l.foldl addTo sd.1 ∧ (l.foldl meetAdd sd).2.Nodup ∧ (∀ x ∈ (l.foldl meetAdd sd).2, x ∈ (l.foldl meetAdd sd).1) ∧ (∀ x, x ∈ (l.foldl meetAdd sd).1 → x ∉ (l.foldl meetAdd sd).2 → x ∈ sd.1 ∧ x ∉ sd.2) ∧ (l.foldl meetAdd sd).1.length + sd.2.length = sd.1.length + (l.foldl meetAdd sd).2.length
  | [], sd, n2, s2 => ⟨rfl, n2, s2, fun x h n => ⟨h, n⟩, rfl⟩
  | e :: l, sd, n2, s2 => by
    obtain ⟨a1, a2, a3, a4, _⟩ := meetAdd_step (seen0 := []) e n2 s2
    obtain ⟨b0, b1, b2, b3, b4⟩ := meetAll l (meetAdd sd e) a1 a2
    rw [List.foldl_cons, List.foldl_cons]
    refine ⟨by rw [b0, meetAdd_fst], b1, b2, fun x h n => a3 x (b3 x h n).1 (b3 x h n).2, by omega⟩
theorem MeetInv.step {t : Chain} (v : VC t) {p q : Nat} (hp : p < t.length) (hq : q < t.length) {seen due : List Pr} {e : Pr} (i : MeetInv t p q seen due) (h : due.getLast? = some e) (d : e.1 ≠ e.2) :
    MeetInv t p q ((four t e).foldl meetAdd (seen, due.dropLast)).1 ((four t e).foldl meetAdd (seen, due.dropLast)).2 ∧
      (9 - ((four t e).foldl meetAdd (seen, due.dropLast)).1.length) + ((four t e).foldl meetAdd (seen, due.dropLast)).2.length < (9 - seen.length) + due.length := by
  have hd : due = due.dropLast ++ [e] := by
    have ne : due ≠ [] := by
      intro z
      rw [z] at h
      simp at h
    have e' : due.getLast ne = e := by
      rw [List.getLast?_eq_some_getLast ne] at h
      exact Option.some.inj h
    rw [← e', List.dropLast_concat_getLast ne]
  generalize hl : due.dropLast = l at hd ⊢
  have ndl : (l ++ [e]).Nodup := hd ▸ i.ndd
  have nl := List.nodup_append.mp ndl
  have ne : e ∉ l := fun z => nl.2.2 e z e (by simp) rfl
  have subl : ∀ x ∈ l, x ∈ seen := fun x hx => i.sub x (by rw [hd]; exact List.mem_append_left _ hx)
  have he : e ∈ seen := i.sub e (by rw [hd]; simp)
  obtain ⟨b0, b1, b2, b3, b4⟩ := meetAll (four t e) (seen, l) nl.1 subl
  have cl := (RP_closed v hp hq).2
  have okn : ∀ x ∈ (four t e).foldl addTo seen, x ∈ pairsN t.length := fun x hx => by
    rcases (mem_addAll _).mp hx with hx | hx
    · exact i.ok x hx
    · exact four_in v (i.ok e he) x hx
  have inv : MeetInv t p q ((four t e).foldl meetAdd (seen, l)).1 ((four t e).foldl meetAdd (seen, l)).2 := by
    refine ⟨?_, ?_, ?_, ?_, b1, b2, fun x hx n => ?_⟩
    · rw [b0]; exact (mem_addAll _).mpr (.inl i.mem)
    · rw [b0]; exact nodup_addAll _ i.nd
    · rw [b0]; exact okn
    · rw [b0]
      intro x hx
      rcases (mem_addAll _).mp hx with hx | hx
      · exact i.rp x hx
      · exact cl e (i.rp e he) x hx
    · have z := b3 x hx n
      simp only at z
      by_cases xe : x = e
      · subst xe
        refine ⟨d, fun f hf => ?_⟩
        rw [b0]
        exact (mem_addAll _).mpr (.inr hf)
      · have nx : x ∉ due := by
          rw [hd]
          simp only [List.mem_append, List.mem_singleton, not_or]
          exact ⟨z.2, xe⟩
        have w := i.done x z.1 nx
        refine ⟨w.1, fun f hf => ?_⟩
        rw [b0]
        exact (mem_addAll _).mpr (.inl (w.2 f hf))
  refine ⟨inv, ?_⟩
  have l1 := inv.le.1
  have l2 : seen.length ≤ t.length * t.length := i.le.1
  have l3 : t.length * t.length ≤ 9 := Nat.mul_le_mul v.le v.le
  have l4 : due.length = l.length + 1 := by rw [hd]; simp
  simp only at b4
  omega
theorem ergodic_eq {t : Chain} : isErgodic t = (hasOneClass t && !!((recurrentStates t).all fun p => (recurrentStates t).all fun q => canMeet t p q)) := by
  rw [Bool.not_not]
  rfl
end SS

/-! ## SM2 -/
set_option maxHeartbeats 4000000
/-! The plain law, part 2: fractions, distributions, coverage, the optimal rule. -/
namespace SS
open R7244e.Spec

/-! ### fractions in lowest terms, their sizes -/
theorem frac_num (a : Int) (b : Nat) (h : 0 < b) : a / ((Nat.gcd a.natAbs b : Nat) : Int) = (mkRat a b).num := by
  rw [Rat.num_mkRat, if_neg (by omega), Nat.gcd_comm]
theorem frac_den (a : Int) (b : Nat) (h : 0 < b) : ((b : Nat) : Int) / ((Nat.gcd a.natAbs b : Nat) : Int) = ((mkRat a b).den : Nat) := by
  rw [Rat.den_mkRat, if_neg (by omega), Nat.gcd_comm]
  rfl
def Sz (k : Nat) (x : Rat) : Prop := x.num.natAbs < 2 ^ k ∧ x.den < 2 ^ k
theorem Sz.mono {j k : Nat} {x : Rat} (s : Sz j x) (h : j ≤ k) : Sz k x :=
  have := Nat.pow_le_pow_right (n := 2) (by decide) h
  ⟨Nat.lt_of_lt_of_le s.1 this, Nat.lt_of_lt_of_le s.2 this⟩
theorem Sz_mkRat {k : Nat} {a : Int} {b : Nat} (hb : 0 < b) (h1 : a.natAbs < 2 ^ k) (h2 : b < 2 ^ k) : Sz k (mkRat a b) := by
  have g : 0 < Nat.gcd b a.natAbs := Nat.gcd_pos_of_pos_left _ hb
  constructor
  · rw [Rat.num_mkRat, if_neg (by omega)]
    refine Nat.lt_of_le_of_lt ?_ h1
    rw [Int.natAbs_ediv_of_dvd (Int.ofNat_dvd_left.mpr (Nat.gcd_dvd_right _ _))]
    exact Nat.div_le_self _ _
  · rw [Rat.den_mkRat, if_neg (by omega)]
    exact Nat.lt_of_le_of_lt (Nat.div_le_self _ _) h2
theorem Sz_mul {j k : Nat} {x y : Rat} (a : Sz j x) (b : Sz k y) : Sz (j + k) (x * y) := by
  rw [Rat.mul_def']
  refine Sz_mkRat (Nat.mul_pos x.den_pos y.den_pos) ?_ ?_
  · rw [Int.natAbs_mul, Nat.pow_add]
    exact Nat.mul_lt_mul'' a.1 b.1
  · rw [Nat.pow_add]
    exact Nat.mul_lt_mul'' a.2 b.2
theorem Sz_sub {j k : Nat} {x y : Rat} (a : Sz j x) (b : Sz k y) : Sz (j + k + 1) (x - y) := by
  rw [Rat.sub_def']
  have p := Nat.pow_add 2 j k
  have h1 : x.num.natAbs * y.den < 2 ^ (j + k) := by rw [p]; exact Nat.mul_lt_mul'' a.1 b.2
  have h2 : y.num.natAbs * x.den < 2 ^ (j + k) := by rw [p, Nat.mul_comm]; exact Nat.mul_lt_mul'' a.2 b.1
  have h3 : x.den * y.den < 2 ^ (j + k) := by rw [p]; exact Nat.mul_lt_mul'' a.2 b.2
  refine Sz_mkRat (Nat.mul_pos x.den_pos y.den_pos) ?_ ?_
  · have e1 : (x.num * y.den).natAbs = x.num.natAbs * y.den := by rw [Int.natAbs_mul]; rfl
    have e2 : (y.num * x.den).natAbs = y.num.natAbs * x.den := by rw [Int.natAbs_mul]; rfl
    have := Int.natAbs_sub_le (x.num * y.den) (y.num * x.den)
    rw [Nat.pow_succ]
    omega
  · rw [Nat.pow_succ]
    omega
theorem div_mk {x y : Rat} (hy : 0 < y) : x / y = mkRat (x.num * y.den) (x.den * y.num.natAbs) := by
  have hn : 0 < y.num := by
    have := (Rat.lt_iff 0 y).mp hy
    simpa using this
  rw [Rat.div_def, Rat.mul_def', Rat.num_inv, Rat.den_inv, if_neg (by omega), Int.sign_eq_one_of_pos hn, Int.one_mul]
theorem Sz_div {j k : Nat} {x y : Rat} (hy : 0 < y) (a : Sz j x) (b : Sz k y) : Sz (j + k) (x / y) := by
  have hn : 0 < y.num := by
    have := (Rat.lt_iff 0 y).mp hy
    simpa using this
  rw [div_mk hy]
  refine Sz_mkRat (Nat.mul_pos x.den_pos (by omega)) ?_ ?_
  · rw [Int.natAbs_mul, Nat.pow_add]
    exact Nat.mul_lt_mul'' a.1 b.2
  · rw [Nat.pow_add]
    exact Nat.mul_lt_mul'' a.2 b.1
theorem Sz_zero (k : Nat) (h : 1 ≤ k) : Sz k 0 := ⟨Nat.pow_pos (by decide), Nat.one_lt_two_pow (by omega)⟩
theorem Sz_one (k : Nat) (h : 1 ≤ k) : Sz k 1 := ⟨Nat.one_lt_two_pow (by omega), Nat.one_lt_two_pow (by omega)⟩

/-! ### sums -/
theorem sum_from : ∀ (l : List Rat) (a : Rat), l.foldl (fun x y => x + y) a = a + sumRat l
  | [], a => by simp [sumRat, Rat.add_zero]
  | x :: l, a => by
    have h1 := sum_from l (a + x)
    have h2 := sum_from l (0 + x)
    show l.foldl (fun x y => x + y) (a + x) = a + l.foldl (fun x y => x + y) (0 + x)
    rw [h1, h2, Rat.zero_add, Rat.add_assoc]
theorem sum_cons (x : Rat) (l : List Rat) : sumRat (x :: l) = x + sumRat l := by
  show l.foldl (fun x y => x + y) (0 + x) = _
  rw [sum_from, Rat.zero_add]
theorem sum_nil : sumRat [] = 0 := rfl
theorem sum_le {α : Type} {f g : α → Rat} : ∀ (l : List α), (∀ p ∈ l, f p ≤ g p) → sumRat (l.map f) ≤ sumRat (l.map g)
  | [], _ => Rat.le_refl
  | a :: l, h => by
    rw [List.map_cons, List.map_cons, sum_cons, sum_cons]
    have h1 := h a List.mem_cons_self
    have h2 := sum_le l fun p hp => h p (List.mem_cons_of_mem _ hp)
    exact Rat.le_trans (Rat.add_le_add_right.mpr h1) (Rat.add_le_add_left.mpr h2)
theorem sum_mul {α : Type} {f : α → Rat} (c : Rat) : ∀ (l : List α), sumRat (l.map fun p => c * f p) = c * sumRat (l.map f)
  | [] => by rw [List.map_nil, List.map_nil, sum_nil, Rat.mul_zero]
  | a :: l => by rw [List.map_cons, List.map_cons, sum_cons, sum_cons, sum_mul c l, Rat.mul_add]
theorem sum_congr {α : Type} {f g : α → Rat} : ∀ (l : List α), (∀ p ∈ l, f p = g p) → sumRat (l.map f) = sumRat (l.map g) := fun l h => by
  rw [List.map_congr_left h]
theorem sum_cast {α : Type} (f : α → Nat) (c : Rat) : ∀ (l : List α), sumRat (l.map fun p => (f p : Rat) / c) = ((l.map f).sum : Nat) / c
  | [] => by
    rw [List.map_nil, List.map_nil, sum_nil, List.sum_nil, Rat.div_def]
    exact (Rat.zero_mul _).symm
  | a :: l => by
    rw [List.map_cons, List.map_cons, sum_cons, List.sum_cons, sum_cast f c l, Rat.natCast_add, Rat.div_def, Rat.div_def, Rat.div_def, Rat.add_mul]

/-! ### the chain's steps, in whole numbers -/
def wgt (g : Bias) (l : Nat) : Nat := if l = 0 then g.1 else g.2 - g.1
/-- the weight of a step -/
def stepW (t : Chain) (g : Bias) (p q : Nat) : Nat := (if target t p 0 = q then wgt g 0 else 0) + (if target t p 1 = q then wgt g 1 else 0)
theorem letter_eq (g : Bias) (c : Nat) : letterProb g c = (wgt g c : Nat) / (g.2 : Nat) := by
  unfold letterProb wgt
  rw [Rat.mkRat_eq_div]
  rfl
theorem trans_eq (t : Chain) (g : Bias) (p q : Nat) : transitionProb t g p q = (stepW t g p q : Nat) / (g.2 : Nat) := by
  have e : transitionProb t g p q = sumRat [if target t p 0 = q then letterProb g 0 else 0, if target t p 1 = q then letterProb g 1 else 0] := rfl
  have z : ∀ (b : Prop) [Decidable b] (c : Nat), (if b then letterProb g c else 0) = (((if b then wgt g c else 0 : Nat) : Nat) : Rat) / (g.2 : Nat) := by
    intro b _ c
    split
    · exact letter_eq g c
    · rw [Rat.div_def]
      exact (Rat.zero_mul _).symm
  rw [e, sum_cons, sum_cons, sum_nil, z, z, Rat.add_zero]
  unfold stepW
  rw [Rat.natCast_add, Rat.div_def, Rat.div_def, Rat.div_def, Rat.add_mul]
def addAt (new : List Nat) (i v : Nat) : List Nat := new.set i (new.getD i 0 + v)
theorem len_addAt (new : List Nat) (i v : Nat) : (addAt new i v).length = new.length := by simp [addAt]
theorem get_addAt {new : List Nat} {i v q : Nat} (h : i < new.length) : (addAt new i v).getD q 0 = new.getD q 0 + (if i = q then v else 0) := by
  unfold addAt
  by_cases e : i = q
  · subst e
    rw [if_pos rfl, List.getD_eq_getElem?_getD, List.getElem?_set_self h, List.getD_eq_getElem?_getD]
    rfl
  · rw [if_neg e, List.getD_eq_getElem?_getD, List.getElem?_set_ne e, List.getD_eq_getElem?_getD]
    rfl
/-- the new row behind so many states -/
def spread (t : Chain) (g : Bias) (rows : List Nat) : Nat → List Nat
  | 0 => List.replicate rows.length 0
  | i + 1 => addAt (addAt (spread t g rows i) (target t i 0) (rows.getD i 0 * wgt g 0)) (target t i 1) (rows.getD i 0 * wgt g 1)
theorem len_spread (t : Chain) (g : Bias) (rows : List Nat) : ∀ i, (spread t g rows i).length = rows.length
  | 0 => by simp [spread]
  | i + 1 => by
    show (addAt (addAt _ _ _) _ _).length = _
    rw [len_addAt, len_addAt, len_spread t g rows i]
def initRow (t : Chain) (p : Nat) : List Nat := (List.range t.length).map fun q => if q = p then 1 else 0
def rowsAt (t : Chain) (g : Bias) (p : Nat) : Nat → List Nat
  | 0 => initRow t p
  | k + 1 => spread t g (rowsAt t g p k) t.length
theorem len_rows (t : Chain) (g : Bias) (p : Nat) : ∀ k, (rowsAt t g p k).length = t.length
  | 0 => by simp [rowsAt, initRow]
  | k + 1 => by
    show (spread _ _ _ _).length = _
    rw [len_spread, len_rows t g p k]
theorem get_spread {t : Chain} (v : VC t) (g : Bias) {rows : List Nat} (hl : rows.length = t.length) (q : Nat) : ∀ i, i ≤ t.length → (spread t g rows i).getD q 0 = ((List.range i).map fun p => rows.getD p 0 * stepW t g p q).sum
  | 0, _ => by
    show (List.replicate rows.length 0).getD q 0 = _
    rw [List.getD_eq_getElem?_getD, List.getElem?_replicate]
    split <;> rfl
  | i + 1, hi => by
    have ih := get_spread v g hl q i (by omega)
    have l := len_spread t g rows i
    have h0 := v.tgt (s := i) (by omega) 0
    have h1 := v.tgt (s := i) (by omega) 1
    show (addAt (addAt _ _ _) _ _).getD q 0 = _
    rw [get_addAt (by rw [len_addAt]; omega), get_addAt (by omega), ih, List.range_succ, List.map_append, List.sum_append]
    show _ = _ + (rows.getD i 0 * stepW t g i q + 0)
    unfold stepW
    rw [Nat.mul_add]
    split <;> split <;> simp <;> omega
theorem sum_stepW {t : Chain} (v : VC t) {g : Bias} (hg : VG g) {p : Nat} (hp : p < t.length) : ((List.range t.length).map fun q => stepW t g p q).sum = g.2 := by
  have key : ∀ (x c n : Nat), x < n → ((List.range n).map fun q => if x = q then c else 0).sum = c := by
    intro x c n
    induction n with
    | zero => intro h; omega
    | succ n ih =>
      intro h
      rw [List.range_succ, List.map_append, List.sum_append]
      by_cases e : x = n
      · subst e
        have z : ((List.range x).map fun q => if x = q then c else 0).sum = 0 := by
          have : ∀ m, m ≤ x → ((List.range m).map fun q => if x = q then c else 0).sum = 0 := by
            intro m
            induction m with
            | zero => intro _; rfl
            | succ m ih2 =>
              intro hm
              rw [List.range_succ, List.map_append, List.sum_append, ih2 (by omega)]
              simp
              omega
          exact this x (Nat.le_refl _)
        rw [z]
        simp
      · rw [ih (by omega)]
        simp [e]
  have sum_add : ∀ (f h : Nat → Nat) (l : List Nat), (l.map fun q => f q + h q).sum = (l.map f).sum + (l.map h).sum := by
    intro f h l
    induction l with
    | nil => rfl
    | cons a l ih => simp only [List.map_cons, List.sum_cons, ih]; omega
  unfold stepW
  rw [sum_add, key _ _ _ (v.tgt hp 0), key _ _ _ (v.tgt hp 1)]
  have := hg.lt
  show g.1 + (g.2 - g.1) = g.2
  omega
/-- each number of a row is at most the denominator -/
theorem rows_sum {t : Chain} (v : VC t) {g : Bias} (hg : VG g) {p : Nat} (hp : p < t.length) : ∀ k, ((List.range t.length).map fun q => (rowsAt t g p k).getD q 0).sum = g.2 ^ k
  | 0 => by
    have e : ((List.range t.length).map fun q => (rowsAt t g p 0).getD q 0) = initRow t p := by
      have l := len_rows t g p 0
      have e2 : rowsAt t g p 0 = initRow t p := rfl
      rw [e2] at l ⊢
      apply List.ext_getElem
      · simp [l]
      · intro i h1 h2
        rw [List.getElem_map, List.getElem_range, getD_at h2]
    rw [e]
    have key : ∀ n, ((List.range n).map fun q => if q = p then 1 else 0).sum = if p < n then 1 else 0 := by
      intro n
      induction n with
      | zero => rfl
      | succ n ih =>
        rw [List.range_succ, List.map_append, List.sum_append, ih]
        by_cases e : n = p
        · subst e; simp
        · simp [e]
          by_cases h : p < n
          · rw [if_pos h, if_pos (by omega)]
          · rw [if_neg h, if_neg (by omega)]
    unfold initRow
    rw [key, if_pos hp]
    rfl
  | k + 1 => by
    have ih := rows_sum v hg hp k
    have e : ((List.range t.length).map fun q => (rowsAt t g p (k + 1)).getD q 0) = (List.range t.length).map fun q => ((List.range t.length).map fun p' => (rowsAt t g p k).getD p' 0 * stepW t g p' q).sum :=
      List.map_congr_left fun q _ => get_spread v g (len_rows t g p k) q t.length (Nat.le_refl _)
    rw [e]
    have swap : ∀ (f : Nat → Nat → Nat) (l m : List Nat), (l.map fun q => (m.map fun p' => f p' q).sum).sum = (m.map fun p' => (l.map fun q => f p' q).sum).sum := by
      intro f l m
      induction l with
      | nil => induction m with
        | nil => rfl
        | cons a m ih => simp only [List.map_nil, List.sum_nil, List.map_cons, List.sum_cons] at ih ⊢; omega
      | cons a l ih =>
        rw [List.map_cons, List.sum_cons, ih]
        clear ih
        induction m with
        | nil => rfl
        | cons b m ih => simp only [List.map_cons, List.sum_cons] at ih ⊢; omega
    rw [swap]
    have pull : ∀ p' ∈ List.range t.length, ((List.range t.length).map fun q => (rowsAt t g p k).getD p' 0 * stepW t g p' q).sum = (rowsAt t g p k).getD p' 0 * g.2 := by
      intro p' hp'
      have s := sum_stepW v hg (List.mem_range.mp hp')
      rw [← s]
      have : ∀ (c : Nat) (f : Nat → Nat) (l : List Nat), (l.map fun q => c * f q).sum = c * (l.map f).sum := by
        intro c f l
        induction l with
        | nil => rfl
        | cons a l ih => simp only [List.map_cons, List.sum_cons, ih, Nat.mul_add]
      exact this _ _ _
    rw [List.map_congr_left pull]
    have pull2 : ∀ (c : Nat) (f : Nat → Nat) (l : List Nat), (l.map fun q => f q * c).sum = (l.map f).sum * c := by
      intro c f l
      induction l with
      | nil => simp
      | cons a l ih => simp only [List.map_cons, List.sum_cons, ih, Nat.add_mul]
    rw [pull2, ih, Nat.pow_succ]
theorem mem_le_sum : ∀ {l : List Nat} {x : Nat}, x ∈ l → x ≤ l.sum
  | a :: l, x, h => by
    rw [List.sum_cons]
    rcases List.mem_cons.mp h with rfl | h
    · omega
    · have := mem_le_sum h
      omega
theorem rows_le {t : Chain} (v : VC t) {g : Bias} (hg : VG g) {p : Nat} (hp : p < t.length) (k q : Nat) (hq : q < t.length) : (rowsAt t g p k).getD q 0 ≤ g.2 ^ k := by
  rw [← rows_sum v hg hp k]
  exact mem_le_sum (List.mem_map.mpr ⟨q, List.mem_range.mpr hq, rfl⟩)
theorem entry_range {n q : Nat} (f : Nat → Rat) (h : q < n) : entry ((List.range n).map f) q = f q := by
  unfold entry
  rw [getD_at (by simpa using h), List.getElem_map, List.getElem_range]
theorem len_dist (t : Chain) (g : Bias) (p : Nat) : ∀ k, (distribution t g p k).length = t.length
  | 0 => by simp [distribution]
  | k + 1 => by simp [distribution, advance]
theorem entry_dist {t : Chain} (v : VC t) {g : Bias} (hg : VG g) {p : Nat} : ∀ k q, q < t.length → entry (distribution t g p k) q = ((rowsAt t g p k).getD q 0 : Nat) / (g.2 ^ k : Nat)
  | 0, q, hq => by
    have e : entry (distribution t g p 0) q = if q = p then 1 else 0 := entry_range _ hq
    have e2 : (rowsAt t g p 0).getD q 0 = if q = p then 1 else 0 := by
      show (initRow t p).getD q 0 = _
      unfold initRow
      rw [getD_at (by simpa using hq), List.getElem_map, List.getElem_range]
    rw [e, e2]
    split
    · show (1 : Rat) = (1 : Rat) * (1 : Rat)⁻¹
      exact (Rat.mul_inv_cancel 1 (by decide)).symm
    · rw [Rat.div_def]
      exact (Rat.zero_mul _).symm
  | k + 1, q, hq => by
    have e : entry (distribution t g p (k + 1)) q = sumRat ((List.range t.length).map fun p' => entry (distribution t g p k) p' * transitionProb t g p' q) := entry_range _ hq
    have d0 : ((g.2 : Nat) : Rat) ≠ 0 := by
      have := hg.lt
      intro z
      have := Rat.natCast_eq_zero_iff.mp z
      omega
    have s : ∀ p' ∈ List.range t.length, entry (distribution t g p k) p' * transitionProb t g p' q = (((rowsAt t g p k).getD p' 0 * stepW t g p' q : Nat) : Rat) / (g.2 ^ (k + 1) : Nat) := by
      intro p' hp'
      rw [entry_dist v hg k p' (List.mem_range.mp hp'), trans_eq, Nat.pow_succ, Rat.natCast_mul, Rat.natCast_mul]
      rw [Rat.div_def, Rat.div_def, Rat.div_def, Rat.inv_mul_rev]
      grind
    rw [e, sum_congr _ s, sum_cast]
    have r : (rowsAt t g p (k + 1)).getD q 0 = _ := get_spread v g (len_rows t g p k) q t.length (Nat.le_refl _)
    rw [r]
end SS

/-! ## SM3 -/
set_option maxHeartbeats 4000000
/-! The plain law, part 3: the stationary distribution, coverage, the optimal rule. -/
namespace SS
open R7244e.Spec

/-! ### the tree weights -/
def lettersOf (n c : Nat) : List Nat := (List.range n).map fun s => c / 2 ^ s % 2
def targetsOf (t : Chain) (ls : List Nat) : List Nat := (List.range ls.length).map fun s => target t s (ls.getD s 0)
def leadGo (ts : List Nat) (root : Nat) : Nat → Nat → Bool
  | 0, s => s == root
  | k + 1, s => if s = root then true else leadGo ts root k (ts.getD s 0)
def leadsTo (ts : List Nat) (s root : Nat) : Bool := leadGo ts root ts.length s
/-- the product behind so many letters -/
def weightAt (g : Bias) (root : Nat) (ls : List Nat) : Nat → Nat
  | 0 => 1
  | i + 1 => weightAt g root ls i * (if i = root then 1 else wgt g (ls.getD i 0))
def treeAdd (t : Chain) (g : Bias) (root told c : Nat) : Nat :=
  if (lettersOf t.length c).getD root 0 = 0 ∧ ((List.range t.length).all fun s => leadsTo (targetsOf t (lettersOf t.length c)) s root) = true
  then told + weightAt g root (lettersOf t.length c) t.length else told
def treeAt (t : Chain) (g : Bias) (root : Nat) : Nat → Nat
  | 0 => 0
  | c + 1 => treeAdd t g root (treeAt t g root c) c
def treeW (t : Chain) (g : Bias) (root : Nat) : Nat := treeAt t g root (2 ^ t.length)
def treesOf (t : Chain) (g : Bias) : List Nat := (List.range t.length).map (treeW t g)
def ratesOf (t : Chain) (g : Bias) : List Rat := (treesOf t g).map fun (x : Nat) => mkRat (x : Nat) (treesOf t g).sum
def balOk (t : Chain) (g : Bias) (ts : List Nat) : Bool :=
  (List.range t.length).all fun q => ((List.range t.length).map fun p => ts.getD p 0 * stepW t g p q).sum == ts.getD q 0 * g.2
/-- what is shown of each chain with a bias by the kernel -/
def rateChk (t : Chain) (g : Bias) : Bool := !hasOneClass t || (decide (stationaryOf t g = some (ratesOf t g)) && ((let ts := treesOf t g; decide (0 < ts.sum ∧ ts.sum < 1024) && balOk t g ts)))
structure RateOk (t : Chain) (g : Bias) (y : List Rat) : Prop where
  st : stationaryOf t g = some y
  eq : y = ratesOf t g
  pos : 0 < (treesOf t g).sum
  lt : (treesOf t g).sum < 1024
  bal : ∀ q, q < t.length → ((List.range t.length).map fun p => (treesOf t g).getD p 0 * stepW t g p q).sum = (treesOf t g).getD q 0 * g.2
theorem rate_of {t : Chain} {g : Bias} (h : rateChk t g = true) (c : hasOneClass t = true) : RateOk t g (ratesOf t g) := by
  unfold rateChk at h
  rw [c] at h
  simp only [Bool.not_true, Bool.false_or, Bool.and_eq_true, decide_eq_true_eq] at h
  obtain ⟨h1, ⟨h2, h3⟩, h4⟩ := h
  refine ⟨h1, rfl, h2, h3, fun q hq => ?_⟩
  have z := List.all_eq_true.mp h4 q (List.mem_range.mpr hq)
  simpa using z
theorem len_trees (t : Chain) (g : Bias) : (treesOf t g).length = t.length := by simp [treesOf]
section
variable {t : Chain} {g : Bias} {y : List Rat} {p : Nat}
theorem RateOk.len (r : RateOk t g y) : y.length = t.length := by rw [r.eq]; simp [ratesOf, len_trees]
theorem RateOk.at (r : RateOk t g y) {q : Nat} (hq : q < t.length) : entry y q = ((treesOf t g).getD q 0 : Nat) / ((treesOf t g).sum : Nat) := by
  rw [r.eq]
  unfold entry ratesOf
  rw [getD_at (by simp [len_trees, hq]), List.getElem_map, Rat.mkRat_eq_div, getD_at (by simp [len_trees, hq])]
  rfl
theorem natCast_div_nonneg (a b : Nat) : (0 : Rat) ≤ (a : Rat) / (b : Rat) := by
  rw [Rat.div_def]
  refine Rat.mul_nonneg Rat.natCast_nonneg ?_
  rcases Nat.eq_zero_or_pos b with h | h
  · subst h
    show (0 : Rat) ≤ (0 : Rat)⁻¹
    rw [Rat.inv_zero]
    exact Rat.le_refl
  · exact Rat.le_of_lt (Rat.inv_pos.mpr (Rat.natCast_pos.mpr h))
theorem RateOk.nonneg (r : RateOk t g y) {q : Nat} (hq : q < t.length) : 0 ≤ entry y q := by
  rw [r.at hq]
  exact natCast_div_nonneg _ _
theorem RateOk.sz (r : RateOk t g y) {q : Nat} (hq : q < t.length) : Sz 10 (entry y q) := by
  rw [r.at hq]
  have e := Rat.mkRat_eq_div ((treesOf t g).getD q 0 : Nat) (treesOf t g).sum
  have e' : (((treesOf t g).getD q 0 : Nat) : Rat) / ((treesOf t g).sum : Nat) = mkRat ((treesOf t g).getD q 0 : Nat) (treesOf t g).sum := by
    rw [e]
    rfl
  rw [e']
  have m : (treesOf t g).getD q 0 ≤ (treesOf t g).sum := by
    rw [getD_at (by rw [len_trees]; exact hq)]
    exact mem_le_sum (List.getElem_mem _)
  have := r.lt
  exact Sz_mkRat r.pos (by rw [Int.natAbs_natCast]; omega) (by omega)
theorem RateOk.some_pos (r : RateOk t g y) : ∃ q, q < t.length ∧ entry y q ≠ 0 := by
  have key : ∀ l : List Nat, 0 < l.sum → ∃ i, i < l.length ∧ l.getD i 0 ≠ 0 := by
    intro l
    induction l with
    | nil => intro h; simp at h
    | cons a l ih =>
      intro h
      by_cases ha : a = 0
      · obtain ⟨i, h1, h2⟩ := ih (by simp [ha] at h; exact h)
        exact ⟨i + 1, by simp; omega, by simpa using h2⟩
      · exact ⟨0, by simp, by simpa using ha⟩
  obtain ⟨q, h1, h2⟩ := key _ r.pos
  rw [len_trees] at h1
  refine ⟨q, h1, fun z => ?_⟩
  rw [r.at h1, Rat.div_def] at z
  rcases Rat.mul_eq_zero.mp z with z | z
  · exact h2 (Rat.natCast_eq_zero_iff.mp z)
  · have p1 := Rat.inv_pos.mpr (Rat.natCast_pos.mpr r.pos)
    rw [z] at p1
    exact Rat.lt_irrefl p1
/-- one step keeps it -/
theorem RateOk.step (hg : VG g) (r : RateOk t g y) {q : Nat} (hq : q < t.length) : sumRat ((List.range t.length).map fun p => entry y p * transitionProb t g p q) = entry y q := by
  have s : ∀ p' ∈ List.range t.length, entry y p' * transitionProb t g p' q = (((treesOf t g).getD p' 0 * stepW t g p' q : Nat) : Rat) / ((treesOf t g).sum * g.2 : Nat) := by
    intro p' hp'
    rw [r.at (List.mem_range.mp hp'), trans_eq, Rat.natCast_mul, Rat.natCast_mul, Rat.div_def, Rat.div_def, Rat.div_def, Rat.inv_mul_rev]
    grind
  rw [sum_congr _ s, sum_cast, r.bal q hq, r.at hq, Rat.natCast_mul, Rat.natCast_mul, Rat.div_def, Rat.div_def, Rat.inv_mul_rev]
  have d0 : ((g.2 : Nat) : Rat) ≠ 0 := by
    have := hg.lt
    intro z
    have := Rat.natCast_eq_zero_iff.mp z
    omega
  have i := Rat.mul_inv_cancel _ d0
  grind

/-! ### coverage -/
theorem minRat_le (x y : Rat) : minRat x y ≤ x ∧ minRat x y ≤ y := by
  unfold minRat
  split
  · rename_i h
    exact ⟨Rat.le_of_lt h, Rat.le_refl⟩
  · rename_i h
    exact ⟨Rat.le_refl, Rat.not_lt.mp h⟩
theorem min_fold : ∀ (l : List Rat) (a : Rat), l.foldl minRat a ≤ a ∧ ∀ x ∈ l, l.foldl minRat a ≤ x
  | [], a => ⟨Rat.le_refl, fun x h => by simp at h⟩
  | b :: l, a => by
    obtain ⟨h1, h2⟩ := min_fold l (minRat a b)
    obtain ⟨m1, m2⟩ := minRat_le a b
    refine ⟨Rat.le_trans h1 m1, fun x hx => ?_⟩
    rcases List.mem_cons.mp hx with rfl | hx
    · exact Rat.le_trans h1 m2
    · exact h2 x hx
theorem minRat_self (x : Rat) : minRat x x = x := by
  unfold minRat
  split <;> rfl
def ratios (x y : List Rat) : List Rat := ((List.range x.length).filter fun q => entry y q != 0).map fun q => entry x q / entry y q
theorem cov_eq (x y : List Rat) : coverageOf x y = minimumOf (ratios x y) := rfl
/-- what the loop over the states keeps: the least ratio so far -/
def covStep (b : Option Rat) (x y : Rat) : Option Rat := if 0 < y.num then (match b with
  | none => some (x / y)
  | some m => if x / y < m then some (x / y) else some m) else b
def covAt (x y : List Rat) : Nat → Option Rat
  | 0 => none
  | i + 1 => covStep (covAt x y i) (entry x i) (entry y i)
theorem covAt_eq {x y : List Rat} (hn : ∀ q, q < x.length → 0 ≤ entry y q) : ∀ i, i ≤ x.length → covAt x y i = (match ((List.range i).filter fun q => entry y q != 0).map fun q => entry x q / entry y q with
    | [] => none
    | a :: l => some (l.foldl minRat a))
  | 0, _ => rfl
  | i + 1, hi => by
    have ih := covAt_eq hn i (by omega)
    show covStep (covAt x y i) _ _ = _
    rw [List.range_succ, List.filter_append, List.map_append]
    have z : entry y i ≠ 0 ↔ 0 < (entry y i).num := by
      have h0 := hn i (by omega)
      have h1 := Rat.num_nonneg.mpr h0
      have h2 : (entry y i).num = 0 ↔ entry y i = 0 := Rat.num_eq_zero
      constructor
      · intro h
        have q : (entry y i).num ≠ 0 := fun e => h (h2.mp e)
        omega
      · intro h e
        have := h2.mpr e
        omega
    unfold covStep
    by_cases hz : 0 < (entry y i).num
    · have e1 : (List.filter (fun q => entry y q != 0) [i]) = [i] := by simp [z.mpr hz]
      rw [if_pos hz, e1, ih]
      cases h : ((List.range i).filter fun q => entry y q != 0).map fun q => entry x q / entry y q with
      | nil => rfl
      | cons a l =>
        show (if _ < _ then _ else _) = some ((l ++ [entry x i / entry y i]).foldl minRat a)
        rw [List.foldl_append]
        show _ = some (minRat (l.foldl minRat a) (entry x i / entry y i))
        unfold minRat
        split <;> rfl
    · have e1 : (List.filter (fun q => entry y q != 0) [i]) = [] := by
        have : entry y i = 0 := by
          refine Classical.byContradiction fun c => hz (z.mp c)
        simp [this]
      rw [if_neg hz, e1, ih, List.map_nil, List.append_nil]
theorem cov_of (v : VC t) (r : RateOk t g y) (n : Nat) : covAt (distribution t g p n) y t.length = some (coverage t g y p n) := by
  have l := len_dist t g p n
  have e := covAt_eq (x := distribution t g p n) (y := y) (fun q hq => r.nonneg (by omega)) t.length (by omega)
  rw [e]
  obtain ⟨q, h1, h2⟩ := r.some_pos
  have hm : entry (distribution t g p n) q / entry y q ∈ ((List.range t.length).filter fun q => entry y q != 0).map fun q => entry (distribution t g p n) q / entry y q :=
    List.mem_map.mpr ⟨q, List.mem_filter.mpr ⟨List.mem_range.mpr h1, by simp [h2]⟩, rfl⟩
  unfold coverage
  rw [cov_eq]
  unfold ratios
  rw [l]
  cases h : ((List.range t.length).filter fun q => entry y q != 0).map fun q => entry (distribution t g p n) q / entry y q with
  | nil => rw [h] at hm; simp at hm
  | cons a m =>
    show some _ = some ((a :: m).foldl minRat ((a :: m).headD 0))
    show some _ = some (m.foldl minRat (minRat a a))
    rw [minRat_self]
theorem dist_nonneg (v : VC t) (hg : VG g) (n : Nat) {q : Nat} (hq : q < t.length) : 0 ≤ entry (distribution t g p n) q := by
  rw [entry_dist v hg n q hq]
  exact natCast_div_nonneg _ _
theorem dist_sz (v : VC t) (hg : VG g) (hp : p < t.length) (n : Nat) (hn : n ≤ 9) {q : Nat} (hq : q < t.length) : Sz 24 (entry (distribution t g p n) q) := by
  rw [entry_dist v hg n q hq]
  have e := Rat.mkRat_eq_div ((rowsAt t g p n).getD q 0 : Nat) (g.2 ^ n)
  have e' : (((rowsAt t g p n).getD q 0 : Nat) : Rat) / ((g.2 ^ n : Nat) : Rat) = mkRat ((rowsAt t g p n).getD q 0 : Nat) (g.2 ^ n) := by
    rw [e]
    rfl
  rw [e']
  have h1 := rows_le v hg hp n q hq
  have h2 : g.2 ^ n ≤ 6 ^ 9 := Nat.le_trans (Nat.pow_le_pow_left hg.le n) (Nat.pow_le_pow_right (by decide) hn)
  have h3 : (6 : Nat) ^ 9 < 2 ^ 24 := by decide
  have h4 : 0 < g.2 ^ n := Nat.pow_pos (by have := hg.lt; omega)
  exact Sz_mkRat h4 (by rw [Int.natAbs_natCast]; omega) (by omega)
theorem cov_mem (v : VC t) (r : RateOk t g y) (n : Nat) : ∃ q, q < t.length ∧ entry y q ≠ 0 ∧ coverage t g y p n = entry (distribution t g p n) q / entry y q := by
  have key : ∀ (l : List Rat) (a : Rat), l.foldl minRat a = a ∨ l.foldl minRat a ∈ l := by
    intro l
    induction l with
    | nil => intro a; exact .inl rfl
    | cons b l ih =>
      intro a
      rw [List.foldl_cons]
      have m : minRat a b = a ∨ minRat a b = b := by
        unfold minRat
        split
        · exact .inr rfl
        · exact .inl rfl
      rcases ih (minRat a b) with h | h
      · rw [h]
        rcases m with m | m
        · exact .inl m
        · rw [m]; exact .inr List.mem_cons_self
      · exact .inr (List.mem_cons_of_mem _ h)
  have c := cov_of (p := p) v r n
  have l := len_dist t g p n
  have e := covAt_eq (x := distribution t g p n) (y := y) (fun q hq => r.nonneg (by omega)) t.length (by omega)
  rw [c] at e
  cases h : ((List.range t.length).filter fun q => entry y q != 0).map fun q => entry (distribution t g p n) q / entry y q with
  | nil => rw [h] at e; cases e
  | cons a m =>
    rw [h] at e
    have e' := Option.some.inj e
    have hm : coverage t g y p n ∈ a :: m := by
      rw [e']
      rcases key m a with k | k
      · rw [k]; exact List.mem_cons_self
      · exact List.mem_cons_of_mem _ k
    rw [← h] at hm
    obtain ⟨q, hq, e2⟩ := List.mem_map.mp hm
    have hq := List.mem_filter.mp hq
    exact ⟨q, List.mem_range.mp hq.1, by simpa using hq.2, e2.symm⟩
theorem pos_of {x : Rat} (h : 0 ≤ x) (n : x ≠ 0) : 0 < x := Rat.lt_of_le_of_ne h (Ne.symm n)
theorem cov_sz (v : VC t) (hg : VG g) (r : RateOk t g y) (hp : p < t.length) (n : Nat) (hn : n ≤ 9) : Sz 34 (coverage t g y p n) := by
  obtain ⟨q, h1, h2, e⟩ := cov_mem (p := p) v r n
  rw [e]
  exact Sz_div (pos_of (r.nonneg h1) h2) (dist_sz v hg hp n hn h1) (r.sz h1)
theorem cov_nonneg (v : VC t) (hg : VG g) (r : RateOk t g y) (n : Nat) : 0 ≤ coverage t g y p n := by
  obtain ⟨q, h1, h2, e⟩ := cov_mem (p := p) v r n
  rw [e, Rat.div_def]
  exact Rat.mul_nonneg (dist_nonneg v hg n h1) (Rat.le_of_lt (Rat.inv_pos.mpr (pos_of (r.nonneg h1) h2)))
theorem cov_le (v : VC t) (hg : VG g) (r : RateOk t g y) (n : Nat) {q : Nat} (hq : q < t.length) : coverage t g y p n * entry y q ≤ entry (distribution t g p n) q := by
  by_cases h : entry y q = 0
  · rw [h, Rat.mul_zero]
    exact dist_nonneg v hg n hq
  · have pos := pos_of (r.nonneg hq) h
    have c := cov_of (p := p) v r n
    have l := len_dist t g p n
    have e := covAt_eq (x := distribution t g p n) (y := y) (fun q hq => r.nonneg (by omega)) t.length (by omega)
    rw [c] at e
    have hm : entry (distribution t g p n) q / entry y q ∈ ((List.range t.length).filter fun q => entry y q != 0).map fun q => entry (distribution t g p n) q / entry y q :=
      List.mem_map.mpr ⟨q, List.mem_filter.mpr ⟨List.mem_range.mpr hq, by simp [h]⟩, rfl⟩
    have le : coverage t g y p n ≤ entry (distribution t g p n) q / entry y q := by
      cases h' : ((List.range t.length).filter fun q => entry y q != 0).map fun q => entry (distribution t g p n) q / entry y q with
      | nil => rw [h'] at hm; simp at hm
      | cons a m =>
        rw [h'] at e hm
        rw [Option.some.inj e]
        rcases List.mem_cons.mp hm with e2 | hm
        · rw [e2]; exact (min_fold m a).1
        · exact (min_fold m a).2 _ hm
    have z := Rat.mul_le_mul_of_nonneg_right le (Rat.le_of_lt pos)
    rwa [Rat.div_mul_cancel h] at z
theorem before_le (v : VC t) (hg : VG g) (r : RateOk t g y) : ∀ (n : Nat) {q : Nat}, q < t.length → coverageBefore t g y p n * entry y q ≤ entry (distribution t g p n) q
  | 0, q, hq => by
    show (0 : Rat) * _ ≤ _
    rw [Rat.zero_mul]
    exact dist_nonneg v hg 0 hq
  | n + 1, q, hq => by
    show coverage t g y p n * entry y q ≤ _
    have e : entry (distribution t g p (n + 1)) q = sumRat ((List.range t.length).map fun p' => entry (distribution t g p n) p' * transitionProb t g p' q) := entry_range _ hq
    rw [e, ← r.step hg hq, ← sum_mul]
    refine sum_le _ fun p' hp' => ?_
    have z := cov_le (p := p) v hg r n (List.mem_range.mp hp')
    have tn : 0 ≤ transitionProb t g p' q := by rw [trans_eq]; exact natCast_div_nonneg _ _
    have w := Rat.mul_le_mul_of_nonneg_right z tn
    rwa [Rat.mul_assoc] at w
theorem uns_at (n : Nat) {q : Nat} (hq : q < t.length) : entry (unstopped t g y p n) q = entry (distribution t g p n) q - coverageBefore t g y p n * entry y q := entry_range _ hq
theorem uns_nonneg (v : VC t) (hg : VG g) (r : RateOk t g y) (n : Nat) {q : Nat} (hq : q < t.length) : 0 ≤ entry (unstopped t g y p n) q := by
  rw [uns_at n hq]
  exact (Rat.le_iff_sub_nonneg _ _).mp (before_le v hg r n hq)
theorem before_sz (v : VC t) (hg : VG g) (r : RateOk t g y) (hp : p < t.length) : ∀ (n : Nat), n ≤ 9 → Sz 34 (coverageBefore t g y p n)
  | 0, _ => Sz_zero 34 (by decide)
  | n + 1, h => cov_sz v hg r hp n (by omega)
theorem uns_sz (v : VC t) (hg : VG g) (r : RateOk t g y) (hp : p < t.length) (n : Nat) (hn : n ≤ 9) {q : Nat} (hq : q < t.length) : Sz 100 (entry (unstopped t g y p n) q) := by
  rw [uns_at n hq]
  exact (Sz_sub (dist_sz v hg hp n hn hq) (Sz_mul (before_sz v hg r hp n hn) (r.sz hq))).mono (by decide)
theorem stops_at (n : Nat) {q : Nat} (hq : q < t.length) : entry (stopProbs t g y p n) q = (if entry (unstopped t g y p n) q = 0 then 0 else (coverage t g y p n - coverageBefore t g y p n) * entry y q / entry (unstopped t g y p n) q) := entry_range _ hq
/-- the loop's answer for a state -/
theorem stops_loop (v : VC t) (hg : VG g) (r : RateOk t g y) (n : Nat) {q : Nat} (hq : q < t.length) :
    entry (stopProbs t g y p n) q = (if 0 < (entry (unstopped t g y p n) q).num then entry y q * (coverage t g y p n - coverageBefore t g y p n) / entry (unstopped t g y p n) q else 0) := by
  rw [stops_at n hq]
  have h0 := Rat.num_nonneg.mpr (uns_nonneg (p := p) v hg r n hq)
  by_cases h : entry (unstopped t g y p n) q = 0
  · rw [if_pos h, if_neg (by rw [h]; decide)]
  · have h2 : (entry (unstopped t g y p n) q).num ≠ 0 := fun e => h (Rat.num_eq_zero.mp e)
    rw [if_neg h, if_pos (by omega), Rat.mul_comm (entry y q)]
theorem len_uns (n : Nat) : (unstopped t g y p n).length = t.length := by simp [unstopped]
theorem len_stops (n : Nat) : (stopProbs t g y p n).length = t.length := by simp [stopProbs]
theorem gain_sz (v : VC t) (hg : VG g) (r : RateOk t g y) (hp : p < t.length) (n : Nat) (hn : n ≤ 9) : Sz 100 (coverage t g y p n - coverageBefore t g y p n) :=
  (Sz_sub (cov_sz v hg r hp n hn) (before_sz v hg r hp n hn)).mono (by decide)

/-! ### words -/
theorem endState_lt (v : VC t) : ∀ (w : List Nat) (s : Nat), s < t.length → endState t s w < t.length
  | [], s, h => h
  | c :: w, s, h => endState_lt v w _ (v.tgt h c)
theorem letter_ne (hg : VG g) (c : Nat) : letterProb g c ≠ 0 := by
  rw [letter_eq]
  intro z
  rw [Rat.div_def] at z
  have := hg.lt
  have := hg.pos
  rcases Rat.mul_eq_zero.mp z with z | z
  · have z := Rat.natCast_eq_zero_iff.mp z
    unfold wgt at z
    split at z <;> omega
  · have p1 := Rat.inv_pos.mpr (Rat.natCast_pos.mpr (show 0 < g.2 by omega))
    rw [z] at p1
    exact Rat.lt_irrefl p1
theorem surv_iff (hg : VG g) : ∀ (w : List Nat) (n q : Nat), survivalFrom t g y p n q w ≠ 0 ↔ ∀ i, i < w.length → entry (stopProbs t g y p (n + i)) (endState t q (w.take i)) ≠ 1
  | [], n, q => by
    constructor
    · intro _ i h; simp at h
    · intro _ h
      exact absurd (show (1 : Rat) = 0 from h) (by decide)
  | c :: w, n, q => by
    have ih := surv_iff hg w (n + 1) (target t q c)
    have e : survivalFrom t g y p n q (c :: w) = (1 - entry (stopProbs t g y p n) q) * letterProb g c * survivalFrom t g y p (n + 1) (target t q c) w := rfl
    rw [e]
    constructor
    · intro h i hi
      have h1 : (1 - entry (stopProbs t g y p n) q) * letterProb g c ≠ 0 := fun z => h (by rw [z, Rat.zero_mul])
      have h2 : survivalFrom t g y p (n + 1) (target t q c) w ≠ 0 := fun z => h (by rw [z, Rat.mul_zero])
      cases i with
      | zero =>
        intro z
        have z : entry (stopProbs t g y p n) q = 1 := z
        exact h1 (by rw [z, Rat.sub_self, Rat.zero_mul])
      | succ i =>
        have k := ih.mp h2 i (by simp at hi; omega)
        rw [show n + (i + 1) = n + 1 + i by omega]
        exact k
    · intro h z
      have k2 := ih.mpr fun i hi => by
        have k := h (i + 1) (by simp; omega)
        rw [show n + 1 + i = n + (i + 1) by omega]
        exact k
      have k1 : entry (stopProbs t g y p n) q ≠ 1 := h 0 (by simp)
      rcases Rat.mul_eq_zero.mp z with z | z
      · rcases Rat.mul_eq_zero.mp z with z | z
        · refine k1 ?_
          have : entry (stopProbs t g y p n) q = 1 - (1 - entry (stopProbs t g y p n) q) := by grind
          rw [this, z]
          decide +kernel
        · exact letter_ne hg c z
      · exact k2 z
theorem wordProb_eq (hg : VG g) (w : List Nat) : wordProb g w = mkRat ((w.map (wgt g)).foldl (· * ·) 1 : Nat) (g.2 ^ w.length) := by
  have d0 : ((g.2 : Nat) : Rat) ≠ 0 := by
    have := hg.lt
    intro z
    have := Rat.natCast_eq_zero_iff.mp z
    omega
  have key : ∀ (w : List Nat) (a : Nat) (k : Nat), (w.map (letterProb g)).foldl (fun x y => x * y) ((a : Rat) / (g.2 ^ k : Nat)) = (((w.map (wgt g)).foldl (· * ·) a : Nat) : Rat) / (g.2 ^ (k + w.length) : Nat) := by
    intro w
    induction w with
    | nil => intro a k; rfl
    | cons c w ih =>
      intro a k
      rw [List.map_cons, List.foldl_cons, List.map_cons, List.foldl_cons]
      have e : (a : Rat) / (g.2 ^ k : Nat) * letterProb g c = ((a * wgt g c : Nat) : Rat) / (g.2 ^ (k + 1) : Nat) := by
        rw [letter_eq, Nat.pow_succ, Rat.natCast_mul, Rat.natCast_mul, Rat.div_def, Rat.div_def, Rat.div_def, Rat.inv_mul_rev]
        grind
      rw [e, ih, List.length_cons, show k + 1 + w.length = k + (w.length + 1) by omega]
  have z := key w 1 0
  have o : ((1 : Nat) : Rat) / ((g.2 ^ 0 : Nat) : Rat) = 1 := by
    show (1 : Rat) * (1 : Rat)⁻¹ = 1
    exact Rat.mul_inv_cancel 1 (by decide)
  rw [o] at z
  unfold wordProb
  rw [z, Rat.mkRat_eq_div, Nat.zero_add]
  rfl
end
end SS

/-! ## SM5 -/
set_option maxHeartbeats 4000000
namespace SS
open R7244e.Spec
theorem bne_ne {x y : Rat} (h : x ≠ y) : (x != y) = true := by simp [h]
theorem bne_eq (x : Rat) : (x != x) = false := by simp
theorem d1 (x : Rat) : x / 1 = x := by
  have : (1 : Rat)⁻¹ = 1 := by decide +kernel
  rw [Rat.div_def, this, Rat.mul_one]
/-- the first column goes -/
theorem elim0 (a b c d e f : Rat) : eliminateColumn [[1, 1, 1, 1], [a, b, c, 0], [d, e, f, 0]] 0 = some [[1, 1, 1, 1], [a - a * 1, b - a * 1, c - a * 1, 0 - a * 1], [d - d * 1, e - d * 1, f - d * 1, 0 - d * 1]] := by
  have h1 : ((1 : Rat) != 0) = true := by decide +kernel
  simp [eliminateColumn, entry, List.range, List.range.loop, h1, d1, List.zipIdx, List.set]
theorem elim0b (a b : Rat) : eliminateColumn [[1, 1, 1], [a, b, 0]] 0 = some [[1, 1, 1], [a - a * 1, b - a * 1, 0 - a * 1]] := by
  have h1 : ((1 : Rat) != 0) = true := by decide +kernel
  simp [eliminateColumn, entry, List.range, List.range.loop, h1, d1, List.zipIdx, List.set]
theorem elim1b {b r : Rat} (h : b ≠ 0) : eliminateColumn [[1, 1, 1], [0, b, r]] 1 = some [[1 - 1 * (0 / b), 1 - 1 * (b / b), 1 - 1 * (r / b)], [0 / b, b / b, r / b]] := by
  simp [eliminateColumn, entry, List.range, List.range.loop, h, List.zipIdx, List.set]
theorem elim1 {b c r e f u : Rat} (h : b ≠ 0) : eliminateColumn [[1, 1, 1, 1], [0, b, c, r], [0, e, f, u]] 1 = some [[1 - 1 * (0 / b), 1 - 1 * (b / b), 1 - 1 * (c / b), 1 - 1 * (r / b)], [0 / b, b / b, c / b, r / b], [0 - e * (0 / b), e - e * (b / b), f - e * (c / b), u - e * (r / b)]] := by
  simp [eliminateColumn, entry, List.range, List.range.loop, h, List.zipIdx, List.set]
theorem elim1z {c r e f u : Rat} (h : e ≠ 0) : eliminateColumn [[1, 1, 1, 1], [0, 0, c, r], [0, e, f, u]] 1 = some [[1 - 1 * (0 / e), 1 - 1 * (e / e), 1 - 1 * (f / e), 1 - 1 * (u / e)], [0 / e, e / e, f / e, u / e], [0 - 0 * (0 / e), 0 - 0 * (e / e), c - 0 * (f / e), r - 0 * (u / e)]] := by
  simp [eliminateColumn, entry, List.range, List.range.loop, h, List.zipIdx, List.set]
theorem elim2 {p0 p1 p2 p3 q0 q1 q2 q3 s0 s1 s2 s3 : Rat} (h : s2 ≠ 0) : eliminateColumn [[p0, p1, p2, p3], [q0, q1, q2, q3], [s0, s1, s2, s3]] 2 = some [[p0 - p2 * (s0 / s2), p1 - p2 * (s1 / s2), p2 - p2 * (s2 / s2), p3 - p2 * (s3 / s2)], [q0 - q2 * (s0 / s2), q1 - q2 * (s1 / s2), q2 - q2 * (s2 / s2), q3 - q2 * (s3 / s2)], [s0 / s2, s1 / s2, s2 / s2, s3 / s2]] := by
  simp [eliminateColumn, entry, List.range, List.range.loop, h, List.zipIdx, List.set]
theorem divE {x y z : Rat} (h : x ≠ 0) (e : x * y = z) : z / x = y := by
  rw [← e, Rat.div_def, Rat.mul_comm x y, Rat.mul_assoc, Rat.mul_inv_cancel x h, Rat.mul_one]
theorem solve3 {a b c d e f y0 y1 y2 : Rat} (h1 : y0 + y1 + y2 = 1) (h2 : a * y0 + b * y1 + c * y2 = 0) (h3 : d * y0 + e * y1 + f * y2 = 0) (det : (b - a) * (f - d) - (c - a) * (e - d) ≠ 0) :
    solveSystem [[1, 1, 1, 1], [a, b, c, 0], [d, e, f, 0]] = some [y0, y1, y2] := by
  have g2 : (b - a) * y1 + (c - a) * y2 = -a := by grind
  have g3 : (e - d) * y1 + (f - d) * y2 = -d := by grind
  have e0 := elim0 a b c d e f
  have z1 : a - a * 1 = 0 := by grind
  have z2 : b - a * 1 = b - a := by grind
  have z3 : c - a * 1 = c - a := by grind
  have z4 : 0 - a * 1 = -a := by grind
  have z5 : d - d * 1 = 0 := by grind
  have z6 : e - d * 1 = e - d := by grind
  have z7 : f - d * 1 = f - d := by grind
  have z8 : 0 - d * 1 = -d := by grind
  rw [z1, z2, z3, z4, z5, z6, z7, z8] at e0
  have un : solveSystem [[1, 1, 1, 1], [a, b, c, 0], [d, e, f, 0]] = ((match eliminateColumn [[1, 1, 1, 1], [a, b, c, 0], [d, e, f, 0]] 0 with
    | some k => (match eliminateColumn k 1 with
      | some k => (match eliminateColumn k 2 with
        | some k => some k
        | none => none)
      | none => none)
    | none => none) : Option (List Equation)).map fun k => k.map fun l => entry l 3 := rfl
  rw [un, e0]
  generalize b - a = B at det g2 e0 ⊢
  generalize c - a = C at det g2 e0 ⊢
  generalize e - d = E at det g3 e0 ⊢
  generalize f - d = F at det g3 e0 ⊢
  by_cases hB : B = 0
  · subst hB
    have hE : E ≠ 0 := fun z => det (by rw [z]; grind)
    have hC : C - 0 * (F / E) ≠ 0 := fun z => det (by
      have : C = 0 := by grind
      rw [this]; grind)
    simp only [elim1z hE, elim2 hC]
    have iE := Rat.mul_inv_cancel E hE
    have w2 : (-a - 0 * (-d / E)) / (C - 0 * (F / E)) = y2 := divE hC (by grind)
    have w1 : (-d / E) - (F / E) * y2 = y1 := by
      rw [Rat.div_def, Rat.div_def]
      grind
    simp only [Option.map_some, List.map_cons, List.map_nil, entry, List.getD_cons_succ, List.getD_cons_zero, w2, w1]
    have w0 : 1 - 1 * (-d / E) - (1 - 1 * (F / E)) * y2 = y0 := by grind
    rw [w0]
  · have iB := Rat.mul_inv_cancel B hB
    have hD : F - E * (C / B) ≠ 0 := fun z => det (by
      rw [Rat.div_def] at z
      grind)
    simp only [elim1 hB, elim2 hD]
    have w2 : (-d - E * (-a / B)) / (F - E * (C / B)) = y2 := divE hD (by
      rw [Rat.div_def, Rat.div_def]
      grind)
    have w1 : (-a / B) - (C / B) * y2 = y1 := by
      rw [Rat.div_def, Rat.div_def]
      grind
    simp only [Option.map_some, List.map_cons, List.map_nil, entry, List.getD_cons_succ, List.getD_cons_zero, w2, w1]
    have w0 : 1 - 1 * (-a / B) - (1 - 1 * (C / B)) * y2 = y0 := by grind
    rw [w0]
/-- the determinant of the balance equations, times the denominator's square -/
def detI (t : Chain) (g : Bias) : Int := (((g.2 : Nat) : Int) - ((stepW t g 1 1 : Nat) : Int) + ((stepW t g 0 1 : Nat) : Int)) * (((g.2 : Nat) : Int) - ((stepW t g 2 2 : Nat) : Int) + ((stepW t g 0 2 : Nat) : Int)) - (((stepW t g 0 1 : Nat) : Int) - ((stepW t g 2 1 : Nat) : Int)) * (((stepW t g 0 2 : Nat) : Int) - ((stepW t g 1 2 : Nat) : Int))
def treeChk (t : Chain) (g : Bias) : Bool := (let ts := treesOf t g; decide (0 < ts.sum ∧ ts.sum < 1024) && balOk t g ts) && decide (detI t g ≠ 0)
/-- what the kernel shows of each chain of three states -/
def rowChk (t : Chain) : Bool := !hasOneClass t || biases.all fun g => treeChk t g
theorem st3 {e0 e1 e2 : Nat × Nat} {g : Bias} (hg : g.2 ≠ 0) (h : treeChk [e0, e1, e2] g = true) : solveSystem (balanceEquations [e0, e1, e2] g) = some (ratesOf [e0, e1, e2] g) := by
  generalize ht : ([e0, e1, e2] : Chain) = t at h ⊢
  unfold treeChk at h
  simp only [Bool.and_eq_true, decide_eq_true_eq] at h
  obtain ⟨⟨⟨pos, _⟩, bal⟩, det⟩ := h
  have lt : t.length = 3 := by rw [← ht]; rfl
  have et : treesOf t g = [treeW t g 0, treeW t g 1, treeW t g 2] := by
    unfold treesOf
    rw [lt]
    rfl
  have er : ratesOf t g = [mkRat (treeW t g 0 : Nat) (treesOf t g).sum, mkRat (treeW t g 1 : Nat) (treesOf t g).sum, mkRat (treeW t g 2 : Nat) (treesOf t g).sum] := by
    unfold ratesOf
    rw [et]
    rfl
  have eb : balanceEquations t g = [[1, 1, 1, 1], [0 - transitionProb t g 0 1, 1 - transitionProb t g 1 1, 0 - transitionProb t g 2 1, 0], [0 - transitionProb t g 0 2, 0 - transitionProb t g 1 2, 1 - transitionProb t g 2 2, 0]] := by
    unfold balanceEquations
    rw [lt]
    rfl
  have b1 : treeW t g 0 * stepW t g 0 1 + treeW t g 1 * stepW t g 1 1 + treeW t g 2 * stepW t g 2 1 = treeW t g 1 * g.2 := by
    have z := List.all_eq_true.mp bal 1 (List.mem_range.mpr (by omega))
    rw [et, lt] at z
    have z : treeW t g 0 * stepW t g 0 1 + (treeW t g 1 * stepW t g 1 1 + (treeW t g 2 * stepW t g 2 1 + 0)) = treeW t g 1 * g.2 := beq_iff_eq.mp z
    omega
  have b2 : treeW t g 0 * stepW t g 0 2 + treeW t g 1 * stepW t g 1 2 + treeW t g 2 * stepW t g 2 2 = treeW t g 2 * g.2 := by
    have z := List.all_eq_true.mp bal 2 (List.mem_range.mpr (by omega))
    rw [et, lt] at z
    have z : treeW t g 0 * stepW t g 0 2 + (treeW t g 1 * stepW t g 1 2 + (treeW t g 2 * stepW t g 2 2 + 0)) = treeW t g 2 * g.2 := beq_iff_eq.mp z
    omega
  have es : (treesOf t g).sum = treeW t g 0 + treeW t g 1 + treeW t g 2 := by
    rw [et]
    show treeW t g 0 + (treeW t g 1 + (treeW t g 2 + 0)) = _
    omega
  rw [es] at pos er
  rw [eb, er]
  simp only [trans_eq, Rat.mkRat_eq_div]
  have c1 : ((treeW t g 0 : Nat) : Rat) * (stepW t g 0 1 : Nat) + (treeW t g 1 : Nat) * (stepW t g 1 1 : Nat) + (treeW t g 2 : Nat) * (stepW t g 2 1 : Nat) = (treeW t g 1 : Nat) * (g.2 : Nat) := by
    rw [← Rat.natCast_mul, ← Rat.natCast_mul, ← Rat.natCast_mul, ← Rat.natCast_mul, ← Rat.natCast_add, ← Rat.natCast_add, b1]
  have c2 : ((treeW t g 0 : Nat) : Rat) * (stepW t g 0 2 : Nat) + (treeW t g 1 : Nat) * (stepW t g 1 2 : Nat) + (treeW t g 2 : Nat) * (stepW t g 2 2 : Nat) = (treeW t g 2 : Nat) * (g.2 : Nat) := by
    rw [← Rat.natCast_mul, ← Rat.natCast_mul, ← Rat.natCast_mul, ← Rat.natCast_mul, ← Rat.natCast_add, ← Rat.natCast_add, b2]
  have n0 : ((g.2 : Nat) : Rat) ≠ 0 := fun z => hg (Rat.natCast_eq_zero_iff.mp z)
  have s0 : ((treeW t g 0 + treeW t g 1 + treeW t g 2 : Nat) : Rat) ≠ 0 := fun z => by
    have := Rat.natCast_eq_zero_iff.mp z
    omega
  have dd : ((detI t g : Int) : Rat) ≠ 0 := fun z => det (Rat.intCast_eq_zero_iff.mp z)
  have de : ((detI t g : Int) : Rat) = (((g.2 : Nat) : Rat) - (stepW t g 1 1 : Nat) + (stepW t g 0 1 : Nat)) * (((g.2 : Nat) : Rat) - (stepW t g 2 2 : Nat) + (stepW t g 0 2 : Nat)) - (((stepW t g 0 1 : Nat) : Rat) - (stepW t g 2 1 : Nat)) * (((stepW t g 0 2 : Nat) : Rat) - (stepW t g 1 2 : Nat)) := by
    unfold detI
    simp only [Rat.intCast_sub, Rat.intCast_mul, Rat.intCast_add, Rat.intCast_natCast]
  rw [de] at dd
  have i1 := Rat.mul_inv_cancel _ n0
  have i2 := Rat.mul_inv_cancel _ s0
  rw [Rat.natCast_add, Rat.natCast_add] at i2
  simp only [Rat.intCast_natCast, Rat.natCast_add]
  simp only [Rat.div_def]
  generalize ((g.2 : Nat) : Rat) = n at *
  generalize ((treeW t g 0 : Nat) : Rat) = w0 at *
  generalize ((treeW t g 1 : Nat) : Rat) = w1 at *
  generalize ((treeW t g 2 : Nat) : Rat) = w2 at *
  generalize ((stepW t g 0 1 : Nat) : Rat) = s01 at *
  generalize ((stepW t g 1 1 : Nat) : Rat) = s11 at *
  generalize ((stepW t g 2 1 : Nat) : Rat) = s21 at *
  generalize ((stepW t g 0 2 : Nat) : Rat) = s02 at *
  generalize ((stepW t g 1 2 : Nat) : Rat) = s12 at *
  generalize ((stepW t g 2 2 : Nat) : Rat) = s22 at *
  generalize (w0 + w1 + w2)⁻¹ = i at *
  generalize n⁻¹ = j at *
  refine solve3 (by grind) (by grind) (by grind) fun z => dd ?_
  have e : (n - s11 + s01) * (n - s22 + s02) - (s01 - s21) * (s02 - s12) = (n * n) * ((1 - s11 * j - (0 - s01 * j)) * (1 - s22 * j - (0 - s02 * j)) - (0 - s21 * j - (0 - s01 * j)) * (0 - s12 * j - (0 - s02 * j))) := by grind
  rw [e, z, Rat.mul_zero]
def chkP (t : Chain) : Bool := if t.length = 3 then rowChk t else biases.all fun g => rateChk t g
def chkR (e : Nat × Nat) : Bool := (pairsN 3).all fun f => (pairsN 3).all fun h => chkP [e, f, h]
theorem cp1 : forChains 1 chkP = true := by decide +kernel
theorem cp2 : forChains 2 chkP = true := by decide +kernel
theorem cr00 : chkR (0, 0) = true := by decide +kernel
theorem cr01 : chkR (0, 1) = true := by decide +kernel
theorem cr02 : chkR (0, 2) = true := by decide +kernel
theorem cr10 : chkR (1, 0) = true := by decide +kernel
theorem cr11 : chkR (1, 1) = true := by decide +kernel
theorem cr12 : chkR (1, 2) = true := by decide +kernel
theorem cr20 : chkR (2, 0) = true := by decide +kernel
theorem cr21 : chkR (2, 1) = true := by decide +kernel
theorem cr22 : chkR (2, 2) = true := by decide +kernel
theorem rate_ok {t : Chain} {g : Bias} (v : VC t) (h : VG g) (c : hasOneClass t = true) : RateOk t g (ratesOf t g) := by
  have z := forChains_at cp1 cp2 (by_first (fun _ => rfl) cr00 cr01 cr02 cr10 cr11 cr12 cr20 cr21 cr22) v
  unfold chkP at z
  by_cases l : t.length = 3
  · rw [if_pos l] at z
    unfold rowChk at z
    rw [c, Bool.not_true, Bool.false_or] at z
    have k := List.all_eq_true.mp z g (mem_biases h)
    have st : stationaryOf t g = some (ratesOf t g) := by
      unfold stationaryOf
      rw [if_pos c]
      match t, l, k with
      | [e0, e1, e2], _, k => exact st3 (by have := h.lt; omega) k
    refine rate_of ?_ c
    unfold treeChk at k
    simp only [Bool.and_eq_true] at k
    have k1 : decide (0 < (treesOf t g).sum ∧ (treesOf t g).sum < 1024) = true := k.1.1
    have k2 : balOk t g (treesOf t g) = true := k.1.2
    show (!hasOneClass t || (decide (stationaryOf t g = some (ratesOf t g)) && (decide (0 < (treesOf t g).sum ∧ (treesOf t g).sum < 1024) && balOk t g (treesOf t g)))) = true
    rw [st, k1, k2, decide_eq_true rfl, c]
    rfl
  · rw [if_neg l] at z
    exact rate_of (List.all_eq_true.mp z g (mem_biases h)) c
end SS

/-! ## SB1 -/
set_option maxHeartbeats 4000000
/-! enumerate over a tuple (the layer has it over lists): the call, a turn, the end -/
namespace SB
open PySem PySem.Spec PyProof.Rows L2
/-- the two cells that enumerate(v) makes: v's iterator, the counter above it -/
abbrev cntr (n : Addr) : Obj := { cls := .type "enumerate", data := .fields #[.none, .bool false, .ref n, rawInt 0, .none, .none] }
theorem enum_made {v : Value} {first : Obj} {Z : Heap → Prop} (start : Begins v first Z) :
    Meets (Builtin.«enumerate.__new__» ⟨[.type "enumerate", v], []⟩) (fun _ R s => Z s.heap ∧ R (.ok (.ret (.ref (s.heap.push first).objs.size))) { s with heap := (s.heap.push first).push (cntr s.heap.objs.size) }) :=
  .of_wp fun P W A R st both => by
    obtain ⟨heap, gens, drawn, tk, os⟩ := st
    obtain ⟨zh, goal⟩ := both
    have below := sub_enumerate
    have iter : ∀ {A' : Around} {E : Value → Shared → Prop} {Q : Value → Shared → Prop}, Q (.ref heap.objs.size) ⟨heap.push first, gens, drawn, tk, os⟩ → wpAny (model P W) A' (pyIter v) Q E ⟨heap, gens, drawn, tk, os⟩ :=
      fun z => start.iter P W _ _ ⟨heap, gens, drawn, tk, os⟩ _ zh z
    wp_walk using iter
    refine wpAny_stack_any fun frames => wpAny_pure ?_
    split
    · rename_i own _ _ _ _ _
      cases (own == Value.type "enumerate") <;> (wp_walk using iter; exact ⟨_, rfl, goal⟩)
    · wp_walk using iter
      exact ⟨_, rfl, goal⟩
theorem enum_call {prog : Program} {w : World} {A : Around} {E : Value → Shared → Prop} {s : Shared} {t : Addr} {xs : Array Value} {Q : Value → Shared → Prop} (tup : s.heap.IsTuple t xs)
    (next : ∀ g, IsEnum g (s.heap.objs.size + 1) s.heap.objs.size 0 .none → g.IsTupleIter s.heap.objs.size t 0 → (∀ b o, s.heap.get? b = some o → g.get? b = some o) → Q (.ref (s.heap.objs.size + 1)) { s with heap := g }) :
    wpAny (model prog w) A (call (.type "enumerate") [.ref t]) Q E s := by
  have start := begins_tuple t xs
  refine callType_new F.called_enumerate (by decide) (F.typeCall_enumerate_1 _) (F.newCall_enumerate_1 _) (fun o => F.args_object_init_2 o _) F.entry_enumerate_new (enum_made start) ⟨tup, ?_⟩
  generalize hf : ({ cls := .type "tuple_iterator", data := .fields #[.ref t, .int 0 0] } : Obj) = first at start ⊢
  have one : (s.heap.push first).objs.size = s.heap.objs.size + 1 := Heap.size_push ..
  have top : ((s.heap.push first).push (cntr s.heap.objs.size)).get? (s.heap.objs.size + 1) = some (cntr s.heap.objs.size) := by
    rw [← one]
    exact Heap.get?_push_size _ rfl
  refine ⟨⟨_, by rw [one]; exact top, rfl⟩, ?_⟩
  rw [one]
  exact next _ top ⟨_, Heap.get?_push_of_some _ (Heap.get?_push_size _ start.free), by rw [← hf], by rw [← hf]; rfl⟩ fun b o z => Heap.get?_push_of_some _ (Heap.get?_push_of_some _ z)
/-- the tuple at a as it stands at each turn, each item in a new pair -/
def IteT (K : PySem.W.Frag) (a : Addr) : It where
  go := fun i H => ∃ (xs : List V) (x : V), SqT K H a xs ∧ xs[i]? = some x
  yld := fun i H v H' => ∃ T x, v = .ref T ∧ H T = none ∧ H' = upd H T (.tup [.int (i : Nat), x]) ∧ ∀ xs, SqT K H a xs → xs[i]? = some x
  stop := fun i H => ∃ xs : List V, SqT K H a xs ∧ xs.length ≤ i
/-- how the cells stand ahead of the turn i: the counter at e, the tuple's iterator at c below it -/
structure Counts (t e c : Addr) (i : Nat) (g : Heap) : Prop where
  top : ∃ last, IsEnum g e c ((i : Nat) : Int) last
  low : g.IsTupleIter c t i
  ec : e ≠ c
  tc : t ≠ c
  te : t ≠ e
theorem pair_mem {b e c : Addr} (m : b ∈ [e, c]) : b = e ∨ b = c := by
  rcases List.mem_cons.mp m with m | m
  · exact .inl m
  · exact .inr (List.mem_singleton.mp m)
theorem Counts.alive {t e c : Addr} {i : Nat} {g : Heap} (z : Counts t e c i g) {b : Addr} (m : b ∈ [e, c]) : ∃ o, g.get? b = some o ∧ ∀ v, o.data ≠ .cell v := by
  obtain ⟨⟨last, top⟩, ⟨o, low, _, data⟩, _⟩ := z
  rcases pair_mem m with rfl | rfl
  · exact ⟨_, top, fun v no => nomatch no⟩
  · refine ⟨o, low, fun v no => ?_⟩
    rw [data] at no
    cases no
theorem Counts.still {t e c : Addr} {i : Nat} {g g' : Heap} (z : Counts t e c i g) (k : ∀ b ∈ [e, c], ∀ o, g.get? b = some o → g'.get? b = some o) : Counts t e c i g' where
  top := z.top.imp fun _ top => k e List.mem_cons_self _ top
  low := z.low.at fun o q => k c (List.mem_cons_of_mem _ List.mem_cons_self) o q
  ec := z.ec
  tc := z.tc
  te := z.te
section
variable {X : Cx} {t e c : Addr} {i : Nat} {pins : List (Addr × Obj)} {s : Shared} {σ : L2.St} {H : Hp} {E : Value → Shared → Prop} {elts : List Expr} {kk : Nat} {tpos : Pos}
/-- one turn: a new pair of the place and the item -/
theorem counts_item (calm : X.calm = true) (I : Inv X pins σ H s) (own : ∀ b ∈ [e, c], FpOk X pins H b) (z : Counts t e c i s.heap) (goes : (IteT X.K t).go i H) :
    wpAny (model X.prog X.w) X.A (pyNext (.ref e)) (fun r s1 => ∃ u, r = some u ∧ wpAny (model X.prog X.w) X.A (letOwnedTupleGo (.Tuple elts kk tpos) (.ref e) u) (fun _ s2 => ∃ x H', Inv X pins σ H' s2 ∧ RelV x u ∧ (IteT X.K t).yld i H x H' ∧ Counts t e c (i + 1) s2.heap ∧ ∀ b ∈ [e, c], H' b = none) E s1) E s := by
  obtain ⟨vs, v, there, at_⟩ := goes
  obtain ⟨us, rel, tup, _⟩ := I.tuple there
  obtain ⟨u, eu, ru⟩ := rel.get at_
  obtain ⟨last, top⟩ := z.top
  have young : ∀ b ∈ [e, c], b < s.heap.objs.size := fun b m => by
    obtain ⟨o, live, _⟩ := z.alive m
    exact Heap.lt_size live
  have tup : s.heap.IsTuple t us.toArray := tup
  have short : i < us.toArray.size := by
    rw [List.size_toArray]
    exact (List.getElem?_eq_some_iff.mp eu).1
  have apart : e ∉ [c, t] := fun m => (pair_mem m).elim z.ec fun q => z.te q.symm
  refine wpAny_pyNext_enum_itemD (fp := [c, t]) (n := us.toArray.size) (P := fun j y => us.toArray[j]? = some y) (St := fun j g => g.IsTupleIter c t j ∧ g.IsTuple t us.toArray) (Draws.tuple (A := X.A.in1) (I.ok.hd calm) c t z.tc us.toArray) top ⟨z.low, tup⟩ short z.ec apart fun y g1 tk drawn out low pair _ rest => ?_
  obtain rfl : y = u := by
    have same : us[i]? = some y := by simpa using drawn
    rw [eu] at same
    exact (Option.some.inj same).symm
  refine ⟨_, rfl, wpAny_letOwnedTupleGo_enum (s := { s with heap := g1, toks := tk + 1 }) out fun g2 back but => ?_⟩
  generalize hn : s.heap.objs.size = N at pair young
  have nN : ∀ b ∈ [e, c], b ≠ N := fun b m => Nat.ne_of_lt (young b m)
  have pair2 := (but.2 N (nN e List.mem_cons_self).symm).trans pair
  have fresh : H N = none := I.hok.fresh (Nat.le_of_eq hn)
  have made : ObjOk X.prog X.w (upd H N (.tup [.int (i : Nat), v])) g2 N (.tup [.int (i : Nat), v]) :=
    ⟨by rw [sizeLine_eq]; show 2 ≤ 16777216; decide, [.int i tk, y], .cons ⟨_, rfl⟩ (.cons ru .nil), _, pair2, rfl, _, rfl⟩
  have J : Inv X pins σ (upd H N (.tup [.int (i : Nat), v])) { s with heap := g2, toks := tk + 1 } :=
    I.turnedNew (ch := [e, c]) (fun b ob out2 old => (but.2 b fun q => out2 (q ▸ List.mem_cons_self)).trans (rest b ob (fun q => out2 (q ▸ List.mem_cons_self)) (fun q => out2 (q ▸ List.mem_cons_of_mem _ List.mem_cons_self)) old)) own (Nat.le_of_eq hn) made
  refine ⟨.ref N, _, J, rfl, ⟨N, v, rfl, fresh, rfl, fun ws hw => ?_⟩, ⟨⟨y, ?_⟩, low.1.at fun o q => (but.2 c z.ec.symm).trans q, z.ec, z.tc, z.te⟩, fun b m => ?_⟩
  · rw [I.tuple_inj hw there]
    exact at_
  · rw [show (((i + 1 : Nat)) : Int) = (i : Int) + 1 from by omega]
    exact back
  · rw [upd_ne (nN b m)]
    exact (own b m).1
/-- the end: the tuple's iterator is at the tuple's end -/
theorem counts_done (calm : X.calm = true) (I : Inv X pins σ H s) (own : ∀ b ∈ [e, c], FpOk X pins H b) (z : Counts t e c i s.heap) (stops : (IteT X.K t).stop i H) :
    wpAny (model X.prog X.w) X.A (pyNext (.ref e)) (fun r s1 => r = none ∧ Inv X pins σ H s1) E s := by
  obtain ⟨vs, there, past⟩ := stops
  obtain ⟨us, rel, tup, _⟩ := I.tuple there
  obtain ⟨last, top⟩ := z.top
  obtain ⟨a0, a1, _, a3, a4, a5⟩ := own c (List.mem_cons_of_mem _ List.mem_cons_self)
  have tup : s.heap.IsTuple t us.toArray := tup
  have over : us.toArray.size ≤ i := by
    rw [List.size_toArray, ← rel.length]
    exact past
  have source : Draws X.prog X.w X.A.in1 c [c, t] i (fun _ _ => True) (fun j g => j = i ∧ g.IsTupleIter c t i ∧ g.IsTuple t us.toArray) := {
    live := fun j g q => q.2.1.imp fun o y => y.1
    frame := fun j g g' q same => ⟨q.1, q.2.1.at fun o y => same c List.mem_cons_self o y, q.2.2.at fun o y => same t (List.mem_cons_of_mem _ List.mem_cons_self) o y⟩
    item := fun j s Q E less q _ => absurd q.1 (Nat.ne_of_lt less)
    done := fun s Q E q fin => wpAny_nextOf_tuple_end (I.ok.hd calm) q.2.1 q.2.2 (by rw [Array.getElem?_eq_none over]) fin }
  exact wpAny_pyNext_enum_endD source top ⟨rfl, z.low, tup⟩ fun g but => ⟨rfl, I.turned (t' := s.toks) (fun b o out old => but b o out old) a0 a1 a3 a4 a5⟩
end
theorem turn_enumT {P : Program} {w : World} {K : PySem.W.Frag} {elts : List Expr} {kk : Nat} {tpos : Pos} (t e c : Addr) : Turn P w K (.Tuple elts kk tpos) (IteT K t) [e, c] e (Counts t e c) where
  mem := List.mem_cons_self
  obj := fun _ _ z _ m => z.alive m
  keep := fun _ _ _ z k => z.still k
  item := fun X eP ew eK calm i pins s σ H E I own z goes => by
    subst eP ew eK
    exact counts_item calm I own z goes
  done := fun X eP ew eK calm i pins s σ H E I own z stops => by
    subst eP ew eK
    exact counts_done calm I own z stops
  self := fun _ _ _ _ _ z q => z.top.elim fun _ top => wpAny_pyIter_enum top q
def iEnumT (K : PySem.W.Frag) (ta : TA) : TI := fun σ H R => ta σ H fun vs H1 => ∃ a xs, vs = [.ref a] ∧ SqT K H1 a xs ∧ R (IteT K a) H1
theorem pi_enumT {X : Cx} {e : Expr} {ta : TA} {p pos tpos : Pos} {elts : List Expr} {kk : Nat} (hg : Gl X "enumerate") (hm : X.mg "enumerate" = none) (args : PA X [e] ta) (one : starEach [e] X.env = [(false, eval e X.env)] := by rfl) :
    PI X (.Tuple elts kk tpos) (.Call (.Name "enumerate" p) [e] [] pos) (iEnumT X.K ta) := by
  constructor
  intro pins s σ H R I h
  refine Call_ (ld_blt I hg hm boot_enumerate (PyProof.Rows.callWith_type1 (thn (args.run pos pins s σ H _ I h) fun us s1 told => ?_) one rfl))
  obtain ⟨_, H1, J, rel, t, xs, rfl, there, goes⟩ := told
  obtain ⟨us1, rfl⟩ : ∃ us1, us = [us1] := by
    cases rel with
    | cons _ q => cases q; exact ⟨_, rfl⟩
  obtain rfl : us1 = .ref t := by
    cases rel with
    | cons q _ => exact q
  obtain ⟨ys, _, tup, _⟩ := J.tuple there
  have old : t < s1.heap.objs.size := by
    obtain ⟨o, live, _⟩ := tup
    exact Heap.lt_size live
  refine enum_call (show s1.heap.IsTuple t ys.toArray from tup) fun g top low rest => wpAny_pyIter_enum top ?_
  generalize hn : s1.heap.objs.size = N at top low old
  refine ⟨N + 1, [N + 1, N], _, _, H1, rfl, J.kept (t' := s1.toks) rest, turn_enumT t (N + 1) N, ⟨⟨.none, top⟩, low, Nat.succ_ne_self _, Nat.ne_of_lt old, Nat.ne_of_lt (Nat.lt_succ_of_lt old)⟩, fun b m => ?_, goes⟩
  have late : s1.heap.objs.size ≤ b := by
    rw [hn]
    rcases pair_mem m with q | q
    · rw [q]; exact Nat.le_succ N
    · rw [q]; exact Nat.le_refl N
  exact J.fpOk late (J.hok.fresh late)
theorem walk_enumT {K : PySem.W.Frag} {a : Addr} {xs : List V} : Walk (IteT K a) xs.length (fun H => SqT K H a xs) (YPair (fun i => some (.int (i : Nat))) (fun i => xs[i]?)) where
  goes := fun i H less there => ⟨xs, xs[i], there, List.getElem?_eq_getElem less⟩
  stops := fun H there => ⟨xs, there, Nat.le_refl _⟩
  yields := fun i H v H' _ there made => by
    obtain ⟨T, x, e1, e2, e3, e4⟩ := made
    exact ⟨T, .int (i : Nat), x, e1, e2, e3, rfl, e4 xs there⟩
end SB

/-! ## SB2 -/
set_option maxHeartbeats 4000000
/-! a comprehension over a text's signs while an exception is handled: the handled exception is pinned, and what ends the signs is a new exception whose context it is -/
namespace SBH
open PySem PySem.Spec PyProof.Rows L2 HotX L2H
/-! ### the signs of an ascii text -/
theorem signs_end {prog : Program} {w : World} {A : Around} {E : Value → Shared → Prop} {s : Shared} {it exc : Addr} {z : Str} {tk : Tok} {i : Nat} {Q : Option Value → Shared → Prop} (hot : HotAt A exc s.heap) (apart : exc ≠ it)
    (iter : s.heap.IsStrIter it "str_ascii_iterator" z tk i) (out : z.cps[i]? = none) (fin : ∀ g, Heap.ExtBut it s.heap g → Q none { s with heap := g }) : wpAny (model prog w) A (pyNext (.ref it)) Q E s := by
  obtain ⟨cell, live, _, parts⟩ := id iter
  obtain ⟨handled, exo, exs, held, exd, ctx⟩ := hot
  unfold pyNext
  apply wpAny_bind
  refine wpAny_attempt ?_
  refine wpAny_callSpecial?_slot (name := Str.ofString "__next__") iter.typeIs F.slot_str_ascii_iterator_next ?_
  refine wpAny_call_entry F.slot_str_ascii_iterator_next iter.typeIs F.entry_str_ascii_iterator_next ?_ (F.args_str_ascii_iterator_next_1 _)
  change wpAny _ _ (field (.ref it) 0 >>= _) _ _ s
  refine wpAny_bind (wpAny_field live parts (x := .str z tk) rfl ?_)
  change wpAny _ _ (field (.ref it) 1 >>= _) _ _ s
  refine wpAny_bind (wpAny_field live parts (x := .int i 0) rfl ?_)
  simp only [out, Int.toNat_natCast]
  refine wpAny_bind (wpAny_rule ?_)
  refine wpAny_bind (wpAny_setField live parts (by simp) (wpAny_bind (wpAny_letGo ?_)))
  generalize eg : s.heap.update it _ = g
  have rest : Heap.ExtBut it s.heap g := eg ▸ (Heap.SameBut.update ..).extBut
  have held1 : g.get? exc = some exo := by
    rw [← eg, Heap.get?_update_other _ _ apart.symm]
    exact held
  change wpAny _ _ (newExc (.type "StopIteration") [] >>= _) _ _ _
  apply wpAny_bind
  simp only [newTuple, newExc]
  refine wpAny_bind (wpAny_newObj_type ?_ (by size_fits))
  refine wpAny_bind (m := firstArgMember _ _) (wpAny_of_eq (a := Value.none) (by simp only [firstArgMember]; rfl) ?_)
  refine wpAny_newObj_type ?_ (by size_fits)
  have held2 : ∀ o1 o2 : Obj, ((g.push o1).push o2).get? exc = some exo := fun _ _ => Heap.get?_push_of_some _ (Heap.get?_push_of_some _ held1)
  have held3 : ∀ o1 : Obj, (g.push o1).get? exc = some exo := fun _ => Heap.get?_push_of_some _ held1
  refine raiseNew_hot ⟨handled, exo, exs, held2 _ _, exd, ctx⟩ (Nat.ne_of_lt (Heap.lt_size (held3 _))) (Heap.get?_push_size _ rfl) rfl (by first | (simp; done) | (simp; omega) | (simp only [Array.size_append]; simp; omega)) ?_
  refine wpAny_bind (wpAny_isInstance (T := "StopIteration") (b := true) ⟨_, Heap.get?_update_self _ (Heap.get?_push_size _ rfl) rfl, rfl⟩ isSubtype_stop (wpAny_pure (fin _ fun b o other old => ?_)))
  have old1 := rest b o other old
  rw [Heap.get?_update_other _ _ (Nat.ne_of_gt (Heap.lt_size (Heap.get?_push_of_some _ old1)))]
  exact Heap.get?_push_of_some _ (Heap.get?_push_of_some _ old1)
/-- the iterator at c is at the sign i -/
def At (z : Str) (tk : Tok) (c : Addr) (i : Nat) (g : Heap) : Prop := g.IsStrIter c "str_ascii_iterator" z tk i
section
variable {X : Cx} {pins : List (Addr × Obj)} {s : Shared} {σ : L2.St} {H : Hp} {E : Value → Shared → Prop} {tg : Expr} {z : Str} {tk : Tok} {c : Addr} {i : Nat}
theorem signs_item (I : Inv X pins σ H s) (own : ∀ b ∈ [c], FpOk X pins H b) (here : At z tk c i s.heap) (goes : (Its z).go i H) :
    wpAny (model X.prog X.w) X.A (pyNext (.ref c)) (fun r s1 => ∃ u, r = some u ∧ wpAny (model X.prog X.w) X.A (letOwnedTupleGo tg (.ref c) u) (fun _ s2 => ∃ x H', Inv X pins σ H' s2 ∧ RelV x u ∧ (Its z).yld i H x H' ∧ At z tk c (i + 1) s2.heap ∧ ∀ b ∈ [c], H' b = none) E s1) E s := by
  have less : i < z.cps.size := goes
  obtain ⟨a0, a1, _, a3, a4, a5⟩ := own c List.mem_cons_self
  refine wpAny_pyNext_ascii_item here (c := z.cps[i]) (Array.getElem?_eq_getElem less) fun g next but => ?_
  obtain ⟨cell, live, kind, parts⟩ := id next
  have J : Inv X pins σ H { s with heap := g, toks := s.toks + 1 } := I.turned (fun b o other old => (but.2 b other).trans old) a0 a1 a3 a4 a5
  exact ⟨_, rfl, go_of (s := { s with heap := g, toks := s.toks + 1 }) live kind parts (by decide) ⟨.str ⟨#[z.cps[i]]⟩, H, J, ⟨s.toks, rfl⟩, ⟨rfl, _, Array.getElem?_eq_getElem less, rfl⟩, next, fun b m => (own b m).1⟩⟩
theorem signs_done (hot : HotC X) (I : Inv X pins σ H s) (own : ∀ b ∈ [c], FpOk X pins H b) (here : At z tk c i s.heap) (stops : (Its z).stop i H) :
    wpAny (model X.prog X.w) X.A (pyNext (.ref c)) (fun r s1 => r = none ∧ Inv X pins σ H s1) E s := by
  obtain ⟨a0, a1, _, a3, a4, a5⟩ := own c List.mem_cons_self
  obtain ⟨q, ⟨handled, exs, exd, ctx⟩, mem⟩ := hot
  have pinned := I.pin q (List.mem_append_left _ mem)
  exact signs_end ⟨handled, q.2, exs, pinned.1, exd, ctx⟩ (a5 q (List.mem_append_left _ mem)) here (Array.getElem?_eq_none stops) fun g but => ⟨rfl, I.turned (t' := s.toks) (fun b o other old => but b o other old) a0 a1 a3 a4 a5⟩
end
theorem turn_signs {P : Program} {w : World} {K : PySem.W.Frag} {tg : Expr} (c : Addr) (z : Str) (tk : Tok) : TurnH P w K tg (Its z) [c] c (At z tk c) where
  mem := List.mem_cons_self
  obj := fun i g here b m => by
    obtain rfl := List.mem_singleton.mp m
    obtain ⟨cell, live, _, parts⟩ := here
    refine ⟨cell, live, fun v no => ?_⟩
    rw [parts] at no
    cases no
  keep := fun i g g' here same => here.imp fun cell y => ⟨same c List.mem_cons_self cell y.1, y.2⟩
  item := fun X eP ew eK hot i pins s σ H E I own here goes => by
    subst eP ew eK
    exact signs_item I own here goes
  done := fun X eP ew eK hot i pins s σ H E I own here stops => by
    subst eP ew eK
    exact signs_done hot I own here stops
  self := fun _ _ _ _ _ here q => wpAny_pyIter_striter_ascii here q
/-- e is an ascii text -/
def iStrH (te : TE) : TI := fun σ H R => te σ H fun v H1 => ∃ x, v = .str x ∧ x.cps.all (· < 128) = true ∧ R (Its x) H1
theorem pi_strH {X : Cx} {tg e : Expr} {te : TE} (text : PE X e te) : PIH X tg e (iStrH te) := by
  constructor
  intro pins s σ H R I h
  refine thn (text.run pins s σ H _ I h) fun v s1 ⟨y, H1, J, rel, z, ey, low, goes⟩ => ?_
  subst ey
  obtain ⟨tk, rfl⟩ := rel
  refine wpAny_pyIter_ascii low ?_
  have own : FpOk X pins H1 s1.heap.objs.size := J.fpOk (Nat.le_refl _) (J.hok.fresh (Nat.le_refl _))
  exact ⟨s1.heap.objs.size, [s1.heap.objs.size], _, _, H1, rfl, J.kept (t' := s1.toks) fun b o old => Heap.get?_push_of_some _ old, turn_signs _ z tk, ⟨_, Heap.get?_push_size _ rfl, rfl, rfl⟩, fun b m => List.mem_singleton.mp m ▸ own, goes⟩
/-! ### a comprehension's block: the handled exception goes with it as a pin -/
abbrev blkH (X : Cx) (s : Shared) (H : Hp) (scope : Scope) (cenv : Env) (fp : List Addr) (p : Addr × Obj) : Cx := { X.blk s H scope cenv fp with pn := [p] }
section
variable {X : Cx} {pins : List (Addr × Obj)} {σ : L2.St} {H H' : Hp} {s s' : Shared} {scope : Scope} {cenv : Env} {fp : List Addr} {p : Addr × Obj}
theorem pin_ok (ok : (X.blk s H scope cenv fp).Ok) : (blkH X s H scope cenv fp p).Ok := by
  cases ok
  constructor <;> assumption
theorem unpin_ok (ok : (blkH X s H scope cenv fp p).Ok) : (X.blk s H scope cenv fp).Ok := by
  cases ok
  constructor <;> assumption
theorem pin_in (J : Inv (X.blk s H scope cenv fp) [p] σ H' s') : Inv (blkH X s H scope cenv fp p) [] σ H' s' := by
  obtain ⟨ok, os, bare, base, loc, cell, free, freeC, pin, hok, len⟩ := J
  exact ⟨pin_ok ok, os, bare, base, loc, cell, free, freeC, fun q m => pin q (by simpa using m), hok, len⟩
end
/-! ### the loop, in a block Y that bears the handled exception -/
section
variable {Y : Cx} {it D : Addr} {fp : List Addr} {tn : Nat → Heap → Prop} {J : It} {elt tg iter : Expr} {ifs : List Expr} {scope : Scope} {pos : Pos} {g : TG} {tt : TT} {te : TE} {σ : L2.St} {vs : List Nat} {W : Nat → Nat → Hp → Prop} {End : Hp → Prop}
/-- what is asked of a turn -/
abbrev Turns (J : It) (D : Addr) (g : TG) (tt : TT) (te : TE) (σ : L2.St) (vs : List Nat) (W : Nat → Nat → Hp → Prop) (End : Hp → Prop) : Prop := ∀ i m H, W i m H →
  (J.stop i H ∧ End H) ∨ (J.go i H ∧ ∃ Next : Hp → Prop, (∀ H', Next H' → ∃ m', m' < m ∧ W (i + 1) m' H') ∧ ∀ x H', J.yld i H x H' → g x (wipe σ vs) H' fun σ2 H2 => wipe σ2 vs = wipe σ vs ∧ tt σ2 H2 fun b H3 =>
    if b = true then te σ2 H3 fun y H4 => ∃ acc, H4 D = some (.lst acc) ∧ acc.length < sizeLine ∧ Next (upd H4 D (.lst (acc ++ [y]))) else Next H3)
/-- how things stand between two turns, so many of them left at most -/
def Between (Y : Cx) (fp : List Addr) (tn : Nat → Heap → Prop) (σ : L2.St) (vs : List Nat) (W : Nat → Nat → Hp → Prop) (m : Nat) (s : Shared) : Prop := ∃ i H, Inv Y [] (wipe σ vs) H s ∧ tn i s.heap ∧ (∀ b ∈ fp, H b = none) ∧ W i m H
theorem hot_loop {post : Except Value Flow → Shared → Prop} (quiet : ∀ e s, ¬ Y.xe e s) (hot : HotC Y) (T : TurnH Y.prog Y.w Y.K tg J fp it tn) (pg : PG Y tg g) (pt : PTs Y ifs tt) (pe : PE Y elt te)
    (own : ∀ {σ' : L2.St} {H' : Hp} {s' : Shared}, Inv Y [] σ' H' s' → (∀ b ∈ fp, H' b = none) → ∀ b ∈ fp, FpOk Y [] H' b) (turns : Turns J D g tt te σ vs W End)
    (fin : ∀ H' s', Inv Y [] (wipe σ vs) H' s' → End H' → post (.ok .next) s') {m0 : Nat} {s0 : Shared} (start : Between Y fp tn σ vs W m0 s0) :
    codeAny (model Y.prog Y.w) Y.A (.compLoop (.ListComp elt [⟨tg, iter, ifs, 0⟩] scope pos) 0 (.ref it) (.ref D) Y.env) post s0 := by
  have calm : ∀ {α : Type} {e : Sem α} {R : α → Shared → Prop} {s : Shared}, wpAny (model Y.prog Y.w) Y.A e R Y.xe s → wpAny (model Y.prog Y.w) Y.A e R (fun _ _ => False) s := fun z => wpAny_mono z (fun _ _ q => q) fun e s q => quiet e s q
  refine compLoop_any (Between Y fp tn σ vs W) ?_ m0 start
  rintro left s1 ⟨i, H1, I1, at1, out1, w1⟩
  rcases turns i left H1 w1 with ⟨stop, over⟩ | ⟨go, Next, later, step⟩
  · refine thnF (T.done Y rfl rfl rfl hot i [] s1 _ H1 (fun _ _ => False) I1 (own I1 out1) at1 stop) fun none s2 ended => ?_
    obtain ⟨rfl, I2⟩ := ended
    exact fin H1 s2 I2 over
  · refine thnF (T.item Y rfl rfl rfl hot i [] s1 _ H1 (fun _ _ => False) I1 (own I1 out1) at1 go) fun drawn s2 told => ?_
    obtain ⟨u, rfl, opened⟩ := told
    refine thnF opened fun _ s3 ⟨x, H3, I3, rel, yld, at3, out3⟩ => ?_
    have P3 := I3.pinned (own I3 out3) (T.obj _ _ at3)
    have again : ∀ {σ4 : L2.St} {s4 : Shared} {H4 : Hp}, wipe σ4 vs = wipe σ vs → Inv Y ([] ++ pinsAt fp s3.heap) σ4 H4 s4 → Next H4 → ∃ less, less < left ∧ Between Y fp tn σ vs W less s4 := fun {σ4 s4 H4} same I4 next => by
      obtain ⟨less, lt, w4⟩ := later H4 next
      have stand : ∀ b ∈ fp, ∀ o, s3.heap.get? b = some o → s4.heap.get? b = some o ∧ H4 b = none := fun b m o old => by
        have q := I4.pin (b, o) (List.mem_append_right _ (List.mem_append_right _ (mem_pinsAt m old)))
        exact ⟨q.1, q.2.1⟩
      refine ⟨less, lt, i + 1, H4, I4.unpinned.weak (by rw [← same, wipe_length]) (fun j v kept => ?_), T.keep _ _ _ at3 fun b m o old => (stand b m o old).1, fun b m => ?_, w4⟩
      · rw [← same] at kept
        exact (wipe_some kept).1
      · obtain ⟨o, old, _⟩ := T.obj _ _ at3 b m
        exact (stand b m o old).2
    refine thnF (calm (pg.run _ s3 _ H3 x u _ P3 rel (step x H3 yld))) fun _ s4 ⟨σ4, H4, I4, same, asks⟩ => ?_
    refine thnF (calm (pt.run _ s4 σ4 H4 _ I4 asks)) fun yes s5 ⟨H5, I5, then_⟩ => ?_
    match yes, then_ with
    | false, then_ => exact again same I5 then_
    | true, then_ =>
      refine thnF (calm (pe.run _ s5 σ4 H5 _ I5 then_)) fun v s6 ⟨y, H6, I6, ry, acc, here, room, next⟩ => ?_
      exact app_ok I6 here room ry fun s7 I7 => again same I7 next
end
/-! ### the comprehension -/
theorem pe_lcH {X : Cx} {elt tg iter : Expr} {ifs : List Expr} {scope : Scope} {own : List (Str × Nat)} {pos : Pos} {wi : TI} {g : TG} {tt : TT} {te : TE} (hc : HotC X) (hN : X.N.Nodup) (source : PIH X tg iter wi) (ok : BlkOk X.N X.env.scope scope own)
    (binds : ∀ (s : Shared) (H : Hp) (C : Addr) (cl : List (Str × Addr)) (fp : List Addr) (p : Addr × Obj), PG (blkH X s H scope (compEnvC scope cl C X.env) fp p) tg g) (tests : ∀ (s : Shared) (H : Hp) (C : Addr) (cl : List (Str × Addr)) (fp : List Addr) (p : Addr × Obj), PTs (blkH X s H scope (compEnvC scope cl C X.env) fp p) ifs tt)
    (items : ∀ (s : Shared) (H : Hp) (C : Addr) (cl : List (Str × Addr)) (fp : List Addr) (p : Addr × Obj), PE (blkH X s H scope (compEnvC scope cl C X.env) fp p) elt te) (plain : ∀ x, foldedSetIterable iter X.env x = pure x := by intro _; rfl) :
    PE X (.ListComp elt [⟨tg, iter, ifs, 0⟩] scope pos) (tLc wi g tt te (own.map (·.2))) := by
  constructor
  intro pins s σ H Q I h
  rw [eval_ListComp]
  have caught : ∀ y ∈ scope.names, y.2 = .free → ∃ c, X.env.cells.lookup y.1 = some c := fun y m free => (ok.free y m free).elim (fun k => I.ok.has _ (.inl k)) fun k => I.ok.has _ (.inr k)
  refine wpAny_comprehension_free rfl plain (closure_ok caught) ok.kind (fun y m z => by rw [ok.uniq y m, z]) ?_
  refine thn (source.run pins s σ H _ I h) fun xv s1 opened => thn opened fun itv s2 told => ?_
  obtain ⟨it, fp, tn, J, H2, rfl, I2, T, at2, out2, promise⟩ := told
  refine wpAny_newObj_type (newEnv_comp ?_) (by show 0 ≤ sizeLine; decide)
  -- the new list stands at D
  generalize hD : s2.heap.objs.size = D
  have noD : H2 D = none := I2.hok.fresh (Nat.le_of_eq hD)
  have young : ∀ b ∈ fp, b < D := fun b m => by
    obtain ⟨o, live, _⟩ := T.obj _ _ at2 b m
    rw [← hD]
    exact Heap.lt_size live
  obtain ⟨W, ⟨m0, w0⟩, turns⟩ := promise D noD
  generalize h3 : ({ s2 with heap := s2.heap.push { cls := .type "list", data := .seq ([] : List Value).toArray } } : Shared) = s3
  have heap3 : s3.heap = s2.heap.push { cls := .type "list", data := .seq ([] : List Value).toArray } := by rw [← h3]
  have size3 : s3.heap.objs.size = D + 1 := by rw [heap3, Heap.size_push, hD]
  have grow3 : ∀ b o, s2.heap.get? b = some o → s3.heap.get? b = some o := fun b o old => by
    rw [heap3]
    exact Heap.get?_push_of_some _ old
  have I3 : Inv X pins σ (upd H2 D (.lst [])) s3 := by
    have at_D : s3.heap.get? D = some { cls := .type "list", data := .seq ([] : List Value).toArray } := by
      rw [heap3, ← hD]
      exact Heap.get?_push_size _ rfl
    rw [← h3] at at_D ⊢
    exact I2.laid (t' := s2.toks) (fun b o old => Heap.get?_push_of_some _ old) (Nat.le_of_eq hD) ⟨Nat.zero_le _, [], 0, .nil, at_D⟩
  generalize hH : upd H2 D (.lst []) = H3 at I3 w0
  have out3 : ∀ b ∈ fp, H3 b = none := fun b m => by
    rw [← hH, upd_ne (Nat.ne_of_lt (young b m))]
    exact (out2 b m).1
  have own3 : ∀ b ∈ fp, FpOk X pins H3 b ∧ b < s3.heap.objs.size := fun b m => ⟨⟨out3 b m, (out2 b m).2⟩, by rw [size3]; exact Nat.lt_succ_of_lt (young b m)⟩
  -- the block, the handled exception pinned in it
  obtain ⟨p, heat, mem⟩ := hc
  obtain ⟨live, gone, n1, n2, n3⟩ := I3.pin p (List.mem_append_left _ mem)
  have off : ∀ b ∈ fp, p.1 ≠ b := fun b m => (out2 b m).2.2.2.2.2 p (List.mem_append_left _ mem)
  have frames : p.1 ∉ frs X.stack := fun m => (List.mem_cons.mp (I3.stkSub p.1 m)).elim n1 n2
  have B4 := block_start I3 ok hN own3
  have I4 := pin_in (p := p) (B4.pins_of (pins' := [p]) fun q m => by
    obtain rfl := List.mem_singleton.mp m
    exact ⟨pushCells_keeps _ _ _ _ (Heap.get?_push_of_some _ live), gone, Nat.ne_of_lt (Heap.lt_size live), frames, n3⟩)
  clear B4
  generalize hcl : cellsFrom (s3.heap.objs.size + 1) scope.names (cloFrom X.env.cells scope.names []) = cl at I4
  have pg := binds s3 H3 s3.heap.objs.size cl fp p
  have pt := tests s3 H3 s3.heap.objs.size cl fp p
  have pe := items s3 H3 s3.heap.objs.size cl fp p
  have place : (compEnvC scope cl s3.heap.objs.size X.env).locals = s3.heap.objs.size := rfl
  generalize hce : compEnvC scope cl s3.heap.objs.size X.env = ce at I4 pg pt pe place
  have at4 : tn 0 (pushCells (s3.heap.push { cls := .type "dict", data := .dict #[] }) scope.names) := T.keep _ _ _ at2 fun b _ o old => pushCells_keeps _ _ _ _ (Heap.get?_push_of_some _ (grow3 b o old))
  have hot4 : HotC (blkH X s3 H3 scope ce fp p) := ⟨p, heat, List.mem_cons_self⟩
  have own4 : ∀ {σ' : L2.St} {H' : Hp} {s' : Shared}, Inv (blkH X s3 H3 scope ce fp p) [] σ' H' s' → (∀ b ∈ fp, H' b = none) → ∀ b ∈ fp, FpOk (blkH X s3 H3 scope ce fp p) [] H' b := fun {σ' H' s'} J' none b m => by
    refine ⟨none b m, (J'.ok.exf b m).1, J'.ok.exfs b m, .inl m, fun y c z => (J'.ok.exf b m).2 y c z, fun q mq => ?_⟩
    obtain rfl := List.mem_singleton.mp (show q ∈ [p] from by simpa using mq)
    exact off b m
  have loop := hot_loop (iter := iter) (scope := scope) (pos := pos) (σ := σ) (vs := own.map (·.2)) (W := W) (End := fun H' => Q (.ref D) H') (fun _ _ z => z) hot4 T pg pt pe own4 turns
    (post := compPost (model X.prog X.w) X.A X.xe none (EP X pins σ Q) (.ref D) s3.heap.objs.size) (fun H' s' J' over => ?_) (m0 := m0) ⟨0, H3, I4, at4, out3, w0⟩
  · show codeAny _ _ (.compStart (.ListComp elt [⟨tg, iter, ifs, 0⟩] scope pos) 0 (.ref it) (.ref D) (compEnvC scope cl s3.heap.objs.size X.env)) (compPost (model X.prog X.w) X.A X.xe none (EP X pins σ Q) (.ref D) s3.heap.objs.size) { s3 with heap := pushCells (s3.heap.push { cls := .type "dict", data := .dict #[] }) scope.names }
    rw [hce]
    exact codeAny_compStart_list loop (T.self X.A 0 _ _ _ at4 loop)
  · -- behind the loop: the def's context again
    have J7 : Inv X pins σ H' s' := I3.call' (ch := fp) J'.os J'.base J'.hok J'.bare fun b m => ⟨(own3 b m).1.2.2.2.1, (own3 b m).1.2.1, (own3 b m).1.2.2.2.2.1, (own3 b m).1.2.2.2.2.2⟩
    have noC : H' s3.heap.objs.size = none := place ▸ J'.free
    obtain ⟨names, ns, _⟩ := J'.loc
    have ns : s'.heap.Ns ce.locals names := ns
    rw [place] at ns
    obtain ⟨a0, a1, _, a3, a4, a5⟩ := I3.fpOk (Nat.le_refl _) noC
    exact ⟨names, ns, fun g but => ⟨.ref D, H', J7.turned (t' := s'.toks) (fun b o other old => (but.2 b other).trans old) a0 a1 a3 a4 a5, rfl, over⟩⟩
end SBH

/-! ## SB3 -/
set_option maxHeartbeats 4000000
namespace SB
open PySem PySem.Spec PyProof.Rows L2
section
variable {X : Cx} {a b c o e : Expr} {es : List Expr} {ta tb tc : TE} {t : TA} {p pos apos : Pos} {k j : Nat} {C : Addr} {x m : Str} {sp : Sp}
/-- a reading that asks more -/
theorem imp {e : Expr} {t t' : TE} (h : PE X e t) (i : ∀ σ H Q, t' σ H Q → t σ H Q) : PE X e t' := ⟨fun pins s σ H Q I q => h.run pins s σ H Q I (i σ H Q q)⟩

/-! ### x is True, x is not False: x any value -/
def rIsX : R2 := fun x y H Q => ∃ k : Bool, y = .bl k ∧ Q (.bl (decide (x = .bl k))) H
def rNotX : R2 := fun x y H Q => ∃ k : Bool, y = .bl k ∧ Q (.bl (!decide (x = .bl k))) H
theorem plain_bl {x : V} {v : Value} (k : Bool) (r : RelV x v) : plainIs v (.bool k) = true := by
  cases x with
  | non => cases (show v = Value.none from r); rfl
  | bl i => cases (show v = Value.bool i from r); rfl
  | int i => obtain ⟨t, e⟩ := (show ∃ t, v = Value.int i t from r); subst e; rfl
  | str i => obtain ⟨t, e⟩ := (show ∃ t, v = Value.str i t from r); subst e; rfl
  | byt i => obtain ⟨t, e⟩ := (show ∃ t, v = Value.bytes i t from r); subst e; rfl
  | flt i => obtain ⟨t, e⟩ := (show ∃ t, v = Value.float i t from r); subst e; rfl
  | ref i => cases (show v = Value.ref i from r); rfl
  | ty i => cases (show v = Value.type i from r); rfl
theorem bl_iff {x : V} {v : Value} (k : Bool) (r : RelV x v) : v = Value.bool k ↔ x = .bl k := by
  constructor
  · intro e
    subst e
    exact r.inj rfl
  · intro e
    subst e
    exact r
theorem op_isX : OpR X (compareOp .Is) rIsX := by
  intro pins st σ H x y v u Q I rx ry told
  obtain ⟨k, rfl, q⟩ := told
  cases (show u = Value.bool k from ry)
  by_cases e : x = .bl k
  · rw [decide_eq_true e] at q
    cases (bl_iff k rx).mpr e
    exact wpAny_is_self rfl ⟨.bl true, H, I, rfl, q⟩
  · rw [decide_eq_false e] at q
    exact wpAny_is_other (plain_bl k rx) (fun z => e ((bl_iff k rx).mp z)) ⟨.bl false, H, I, rfl, q⟩
theorem op_notX : OpR X (compareOp .IsNot) rNotX := by
  intro pins st σ H x y v u Q I rx ry told
  obtain ⟨k, rfl, q⟩ := told
  cases (show u = Value.bool k from ry)
  by_cases e : x = .bl k
  · rw [decide_eq_true e] at q
    cases (bl_iff k rx).mpr e
    exact wpAny_isNot_self rfl ⟨.bl false, H, I, rfl, q⟩
  · rw [decide_eq_false e] at q
    exact wpAny_isNot_other (plain_bl k rx) (fun z => e ((bl_iff k rx).mp z)) ⟨.bl true, H, I, rfl, q⟩

/-! ### xs[i] of a list, by values, for xs[i] op= e -/
def rGetL (K : PySem.W.Frag) : V → V → Hp → VK → Prop := fun o i H Q => ∃ p xs k v, o = .ref p ∧ i = .int (k : Nat) ∧ SqL K H p xs ∧ xs[k]? = some v ∧ Q v H
theorem get_list : PGet X (rGetL X.K) := by
  intro pins s σ H o i ov iv Q I ro ri h
  obtain ⟨p, xs, k, v, rfl, rfl, hq, he, q⟩ := h
  cases ro
  obtain ⟨t, rfl⟩ := ri
  obtain ⟨its, rel, pl, few⟩ := I.list hq
  obtain ⟨w, ew, rw'⟩ := rel.get he
  have inside : k < its.length := (List.getElem?_eq_some_iff.mp ew).1
  have hl := rel.length
  have hs := sizeLine_eq
  exact wpAny_getItem_list pl.isList (by omega) (by omega) (by simpa using ew) ⟨v, H, I, rw', q⟩

/-! ### {k: v}, k a tuple -/
def tDisp1T (tk tv : TE) : TE := fun σ H Q => ∀ p, H p = none → tk σ (upd H p (.dT [])) fun x H1 => tv σ H1 fun y H2 => ∃ (b' : Addr) (ks : List Key), x = .ref b' ∧ H2 b' = some (.tup (ks.map kV)) ∧ H2 p = some (.dT []) ∧
  Q (.ref p) (upd H2 p (.dT [(ks, y)]))
theorem pe_disp1T {k v : Expr} {tk tv : TE} (hu : X.A.units < cLine) (hk : PE X k tk) (hv : PE X v tv) : PE X (.Dict [some k] [v] pos) (tDisp1T tk tv) := by
  refine ⟨fun pins s σ H Q I q => ?_⟩
  have hn := I.hok.fresh (Nat.le_refl s.heap.objs.size)
  have I1 := I.laid (a := s.heap.objs.size) (o := .dT []) (h' := s.heap.push { cls := .type "dict", data := .dict #[] }) (t' := s.toks) (fun _ _ q => Heap.get?_push_of_some _ q) (Nat.le_refl _) (dt_empty s.heap I.big)
  rw [arm_eval_Dict, zip_pairTrees [some k] [v] X.env pos rfl rfl, dictDisplay_pairs (pairTrees [some k] [v] X.env pos) (by intro z; cases z) (by show 1 < 17; decide)]
  refine wpAny_bind (wpAny_standAt (wpAny_bind (wpAny_subDictH (knd := tupleKind (mixKind X.prog X.w)) (Q := fun d s' => wpAny (model X.prog X.w) X.A (pure (Value.ref d)) (EP X pins σ Q) X.xe s') hu (by show 1 ≤ 15; decide) ?_)))
  refine pairTrees_cons_walk (thn (hk.run pins _ σ _ _ I1 (q _ hn)) fun u s1 ⟨x, H1, I1', rx, q1⟩ => thn (hv.run pins s1 σ H1 _ I1' q1) fun w2 s2 ⟨y, H2, I2, ry, b', ks, ex, hb, hp, q2⟩ => pairTrees_nil_walk ?_)
  subst ex
  cases (show u = Value.ref b' from rx)
  obtain ⟨z, hd, xs, rel, dd⟩ := dt_of I2.hok hp
  cases rel
  have key := key_of I2.hok hb
  refine ⟨[(ks, b', w2)], ⟨rfl, rfl, key, trivial⟩, dd, fun h' tk' dd' hs => wpAny_pure ?_⟩
  have e1 : storedAllH [] [(ks, b', w2)] = [(ks, b', w2)] := rfl
  rw [e1] at dd'
  obtain ⟨qo, es, ep, hq, h2, h3, h4, h5, h6⟩ := dd'
  refine ⟨.ref s.heap.objs.size, _, d_write (ob := .dT [(ks, y)]) I2 (by rw [hp]; exact True.intro) hs ⟨qo, hq⟩ ?_, rfl, q2⟩
  have nb : b' ≠ s.heap.objs.size := ne_of hb hp (fun z => nomatch z)
  exact ⟨by rw [sizeLine_eq]; show 1 ≤ 16777216; decide, hd, [(ks, b', w2)], .cons ⟨rfl, by rw [upd_ne nb]; exact hb, ry⟩ .nil, qo, es, ep, hq, h2, h3, h4, h6⟩

/-! ### a def that may raise, by its name -/
structure CalX (P : Program) (w : World) (K : PySem.W.Frag) (mg : Str → Option Value) (base : Heap) (k : Nat) (x : Str) (sp : Sp) : Prop where
  ex : ∃ (f : Addr) (fd : FuncData) (ps : List Str), FnOk P w K mg base (L2N.CX P w) k f fd ps sp ∧ mg x = some (.ref f) ∧ PySem.W.keepIn K (.ref f) = true ∧ Binds K fd ps []
theorem pe_cX {k j : Nat} {sp : Sp} {x : Str} {p : Pos} {e : Expr} {es : List Expr} {t : TA} {W : WX} (c : CalX X.prog X.w X.K X.mg X.base k x sp) (hr : Room j X.A) (hk : k ≤ j) (hg : Gl X x) (tk : L2N.Takes X W) (ha : PA X (e :: es) t)
    (nodb : (x == ("__debug__" : Str)) = false := by decide) (he : starEach (e :: es) X.env = (false, eval e X.env) :: starEach es X.env := by rfl) (flat : (backTo pos (starEach es X.env)).any (·.1) = false := by rfl) :
    PE X (.Call (.Name x p) (e :: es) [] pos) (tCallS sp (WE W) t) := by
  obtain ⟨f, fd, ps, F, hm, kp, b⟩ := c.ex
  exact pe_callS F (hr.mono hk) hg hm kp b (fun σ => L2N.passAt tk σ) ha nodb he flat
/-- a def that lets nothing out, by its name; a method; a class that is made -/
structure Cal (P : Program) (w : World) (K : PySem.W.Frag) (mg : Str → Option Value) (base : Heap) (k : Nat) (x : Str) (sp : Sp) : Prop where
  ex : ∃ (f : Addr) (fd : FuncData) (ps : List Str), FnOk P w K mg base CX0 k f fd ps sp ∧ mg x = some (.ref f) ∧ PySem.W.keepIn K (.ref f) = true ∧ Binds K fd ps []
structure Met (P : Program) (w : World) (K : PySem.W.Frag) (mg : Str → Option Value) (base : Heap) (k : Nat) (C : Addr) (m : Str) (sp : Sp) : Prop where
  ex : ∃ (f : Addr) (fd : FuncData) (ps : List Str), Cls K C ∧ Meth K C m f ∧ FnOk P w K mg base CX0 k f fd ps sp ∧ Binds K fd ps []
structure Mak (P : Program) (w : World) (K : PySem.W.Frag) (mg : Str → Option Value) (base : Heap) (k : Nat) (x : Str) (C : Addr) (sp : Sp) : Prop where
  ex : ∃ (f : Addr) (fd : FuncData) (ps : List Str), Mk K C f ∧ FnOk P w K mg base CX0 k f fd ps sp ∧ mg x = some (.ref C) ∧ Binds K fd ps []
theorem cal (c : Cal X.prog X.w X.K X.mg X.base k x sp) (hr : Room j X.A) (hk : k ≤ j) (hg : Gl X x) (ha : PA X (e :: es) t) (nodb : (x == ("__debug__" : Str)) = false := by decide)
    (he : starEach (e :: es) X.env = (false, eval e X.env) :: starEach es X.env := by rfl) (flat : (backTo pos (starEach es X.env)).any (·.1) = false := by rfl) : PE X (.Call (.Name x p) (e :: es) [] pos) (tCall sp [] E0 t) := by
  obtain ⟨f, fd, ps, F, hm, kp, b⟩ := c.ex
  exact pe_call F (hr.mono hk) hg hm kp b .nil pass0 ha nodb he flat
theorem mak (c : Mak X.prog X.w X.K X.mg X.base k x C sp) (hr : Room j X.A) (hk : k + 1 ≤ j) (hg : Gl X x) (ha : PA X (e :: es) t) (nodb : (x == ("__debug__" : Str)) = false := by decide)
    (he : starEach (e :: es) X.env = (false, eval e X.env) :: starEach es X.env := by rfl) (flat : (backTo pos (starEach es X.env)).any (·.1) = false := by rfl) : PE X (.Call (.Name x p) (e :: es) [] pos) (tMake C sp [] E0 t) := by
  obtain ⟨f, fd, ps, M, F, hm, b⟩ := c.ex
  exact pe_make M F (hr.mono hk) hg hm b .nil pass0 ha nodb he flat
theorem mak0 (c : Mak X.prog X.w X.K X.mg X.base k x C sp) (hr : Room j X.A) (hk : k + 1 ≤ j) (hg : Gl X x) (nodb : (x == ("__debug__" : Str)) = false := by decide) : PE X (.Call (.Name x p) [] [] pos) (tMake C sp [] E0 tNil) := by
  obtain ⟨f, fd, ps, M, F, hm, b⟩ := c.ex
  exact pe_make0 M F (hr.mono hk) hg hm b .nil pass0 nodb
theorem met {pl : Sem Bool} (c : Met X.prog X.w X.K X.mg X.base k C m sp) (hr : Room j X.A) (hk : k ≤ j) (ho : PE X o ta) (ha : PA X (e :: es) t)
    (each : starEach (e :: es) X.env = (false, eval e X.env) :: starEach es X.env := by rfl) (flat : (backTo pos (starEach es X.env)).any (·.1) = false := by rfl)
    (ht : eval (.Call (.Attribute o m apos) (e :: es) [] pos) X.env = (do
      let ov ← eval o X.env
      standAt apos.atName
      let (f, first) ← holding [ov] (getMethod ov m pl)
      callWith pos f first (backTo pos (starEach (e :: es) X.env)) (backToKw pos (keywordEach [] X.env))) := by rfl) : PE X (.Call (.Attribute o m apos) (e :: es) [] pos) (tMeth C m sp [] E0 ta t) := by
  obtain ⟨f, fd, ps, c1, me, F, b⟩ := c.ex
  exact pe_meth ho c1 me F (hr.mono hk) b .nil pass0 ha each flat ht
theorem met0 {pl : Sem Bool} (c : Met X.prog X.w X.K X.mg X.base k C m sp) (hr : Room j X.A) (hk : k ≤ j) (ho : PE X o ta)
    (ht : eval (.Call (.Attribute o m apos) [] [] pos) X.env = (do
      let ov ← eval o X.env
      standAt apos.atName
      let (f, first) ← holding [ov] (getMethod ov m pl)
      callWith pos f first (backTo pos (starEach [] X.env)) (backToKw pos (keywordEach [] X.env))) := by rfl) : PE X (.Call (.Attribute o m apos) [] [] pos) (tMeth C m sp [] E0 ta tNil) := by
  obtain ⟨f, fd, ps, c1, me, F, b⟩ := c.ex
  exact pe_meth0 ho c1 me F (hr.mono hk) b .nil pass0 ht
end
/-! ### a look at a def's scope -/
theorem sc_by {N P : List Str} {sc : Scope} (h : decide (sc.kind = .function ∧ sc.isCoroutine = false ∧ sc.isGenerator = false ∧ N.Nodup ∧ N.take P.length = P ∧ (∀ x ∈ P, sc.names.lookup x = some .local ∨ sc.names.lookup x = some .cell) ∧ ∀ y ∈ sc.names, y.2 ≠ .free) = true) : FnScope N P sc := by
  obtain ⟨kind, co, gen, once, first, par, free⟩ := of_decide_eq_true h
  constructor <;> assumption
/-! ### the rules with the written part named (within a comprehension's block it must not hang on the block) -/
section
variable {X : Cx} {K : PySem.W.Frag} {e : Expr} {te : TE} {pos : Pos} {f : Str} {tg : Expr}
theorem kIxL (hK : X.K = K) : IxR X (rIxL K) := by subst hK; exact ix_list
theorem kIxT (hK : X.K = K) : IxR X (rIxT K) := by subst hK; exact ix_tup
theorem kSlL (hK : X.K = K) : SlR X (rSlL K) := by subst hK; exact sl_list
theorem kSlA (hK : X.K = K) : SlR X (rSlA K) := by subst hK; exact sl_tupA
theorem kIn (hK : X.K = K) : OpR X (compareOp .In) (rIn K false) := by subst hK; exact op_in_seq
theorem kNotIn (hK : X.K = K) : OpR X (compareOp .NotIn) (rIn K true) := by subst hK; exact op_notIn_seq
theorem kEqD (hK : X.K = K) (hu : X.A.units + 64 < cLine) : OpR X (compareOp .Eq) (rEqD K) := by subst hK; exact op_eqD hu
theorem kNeD (hK : X.K = K) (hu : X.A.units + 64 < cLine) : OpR X (compareOp .NotEq) (rNeD K) := by subst hK; exact op_neD hu
theorem kCatA (hK : X.K = K) : OpR X (binaryOp .Add) (rCatA K) := by subst hK; exact op_catA
def rLen (K : PySem.W.Frag) : List V → Hp → VK → Prop := fun xs H Q => ∃ p ys, xs = [.ref p] ∧ (SqL K H p ys ∨ SqT K H p ys) ∧ Q (.int ys.length) H
theorem kLen (hK : X.K = K) : CallR X (.builtin "len") (rLen K) := by subst hK; exact call_len_seq
def rListOf (K : PySem.W.Frag) : List V → Hp → VK → Prop := fun xs H Q => ∃ p ys, xs = [.ref p] ∧ (SqL K H p ys ∨ SqT K H p ys) ∧ ∀ l, H l = none → Q (.ref l) (upd H l (.lst ys))
theorem kListOf (hK : X.K = K) : CallR X (.type "list") (rListOf K) := by subst hK; exact call_list_of
def rTupOf (K : PySem.W.Frag) : List V → Hp → VK → Prop := fun xs H Q => ∃ p ys, xs = [.ref p] ∧ ((SqL K H p ys ∧ ∀ l, H l = none → Q (.ref l) (upd H l (.tup ys))) ∨ (SqT K H p ys ∧ Q (.ref p) H))
theorem kTupOf (hK : X.K = K) : CallR X (.type "tuple") (rTupOf K) := by subst hK; exact call_tuple_of
theorem kAll (hK : X.K = K) (hc : X.calm = true) : CallR X (.builtin "all") (rAll K) := by subst hK; exact cr_all hc
theorem kSum (hK : X.K = K) (hc : X.calm = true) : CallR X (.builtin "sum") (rSum K) := by subst hK; exact cr_sum hc
theorem kIsi (hK : X.K = K) : CallR X (.builtin "isinstance") (rIsi K) := by subst hK; exact call_isi
theorem kFld (hK : X.K = K) (he : PE X e te) (hb : attributeBase e f X.env (eval e X.env) = eval e X.env) : PE X (.Attribute e f pos) (tFld K te f) := by subst hK; exact pe_fld he hb
theorem kPiL (hK : X.K = K) (he : PE X e te) : PI X tg e (iList K te) := by subst hK; exact pi_list he
end
end SB

/-! ## SB4 -/
set_option maxHeartbeats 4000000
namespace SB
open PySem PySem.Spec PyProof.Rows L2
/-! ### a def that may raise an exception without a context -/
section
variable {P : Program} {w : World} {base : Heap}
variable {K : PySem.W.Frag} {mg : Str → Option Value}
theorem okN {name long : Str} {at_ : Stmt} {f : Addr} {fd : FuncData} {N ps : List Str} {k : Nat} {sp : Sp} (F : Fun K name long at_ f fd) (S : FnScope N ps (defScope at_)) (nv : ∀ vs H Q E, sp vs H Q E → vs.length = ps.length)
    (told : ∀ (cdv : Value) (A : Around) (outer : List Env) (s : Shared) (H : Hp) (vs : List V) (Q : VK) (E : XK), Room k (A.deeper (envOfC long (defScope at_) s.heap.objs.size f cdv)) → sp vs H Q E →
      ∃ t, PSs (cxOf (L2N.CX P w) P w K mg base N long (defScope at_) f cdv A outer s H E) (defBody at_) t ∧ t { nx := fun _ H' => Q .non H', rt := Q } (start N vs) H) : FnOk P w K mg base (L2N.CX P w) (k + 1) f fd ps sp := by
  obtain ⟨_, _, _, _, _, _, cdv, _, _, e, look, code⟩ := F.ex
  subst e
  exact fn_of look code S nv fun A outer s H vs Q E room h => told cdv A outer s H vs Q E room h
end
/-! ### an exception of a class with an __init__ of its own; its context is told, too -/
theorem pmk_oexN {X : Cx} {CX : CXT} {x : Str} {C fI : Addr} {k : Nat} {fd : FuncData} {ps : List Str} {sp : Sp} {e : Expr} {es : List Expr} {ta : TA} {p pos : Pos} (T : OexC X.K C) (look : PySem.W.findIn X.K (.ref C) "__init__" = some (some (.ref fI))) (kind : PySem.W.typeIn X.K (.ref fI) = some (.type "function"))
    (ok : FnOk X.prog X.w X.K X.mg X.base CX k fI fd ps sp) (room : Room (k + 1) X.A) (bind : Binds X.K fd ps []) (calm : Passes CX X (fun _ _ _ => False)) (hg : Gl X x) (hm : X.mg x = some (.ref C)) (args : PA X (e :: es) ta)
    (nodb : (x == ("__debug__" : Str)) = false := by decide) (st : starEach (e :: es) X.env = (false, eval e X.env) :: starEach es X.env := by rfl) (pl : (backTo pos (starEach es X.env)).any (·.1) = false := by rfl) :
    L2N.PMk X (.Call (.Name x p) (e :: es) [] pos) (tMkO C sp [] ta) := by
  intro pins s σ H Q I0 h
  obtain ⟨_, _, _, _, bm, _, _, _, _, _, _, _, _, _, _, look2, refs⟩ := T.cls
  refine wpAny_Call_Name_kw (ld_glob I0 hg hm (PySem.W.callWith_K (h₀ := X.base) I0.ok.mod.kin T.kC (thn (args.run pos pins s σ H _ I0 h) fun us s1 ⟨vs, H1, I, r, small, wish⟩ => ⟨I.kIn, ?_⟩) st pl) nodb)
  show wpAny _ _ (call (.ref C) us) _ _ _
  obtain ⟨hp, gens, drawn, tk, os⟩ := s1
  have up1 : hp.objs.size ≤ hp.objs.size + 1 := Nat.le_add_right _ _
  have aim := wish _ (I.hok.fresh up1)
  rw [List.append_nil] at aim
  have stays : ∀ b o, hp.get? b = some o → ((hp.push (PySem.W.kdv_tup us)).push (PySem.HandSPX.excO C hp.objs.size)).get? b = some o := fun b o z => Heap.get?_push_of_some _ (Heap.get?_push_of_some _ z)
  have there : ((hp.push (PySem.W.kdv_tup us)).push (PySem.HandSPX.excO C hp.objs.size)).get? (hp.objs.size + 1) = some (PySem.HandSPX.excO C hp.objs.size) := by heap_get
  have J : Inv X pins σ (upd H1 (hp.objs.size + 1) (exo (hp.objs.size + 1) C none)) ⟨(hp.push (PySem.W.kdv_tup us)).push (PySem.HandSPX.excO C hp.objs.size), gens, drawn, tk, os⟩ :=
    I.laid (t' := tk) (o := exo (hp.objs.size + 1) C none) stays up1 (exo_ok there)
  have vals : Vals (V.ref (hp.objs.size + 1) :: vs) (Value.ref (hp.objs.size + 1) :: us) := .cons rfl r
  have many : (Value.ref (hp.objs.size + 1) :: us).length = ps.length := by rw [← ok.len _ _ _ _ aim, ← vals.length]
  have few : us.length ≤ sizeLine := by
    have := Paired.length r
    have := sizeLine_eq
    omega
  have bd := bind _ (Value.ref (hp.objs.size + 1) :: us) J.kIn (by rw [List.append_nil]; exact many)
  rw [List.append_nil] at bd
  refine wpAny_call (PySem.HandSPX.call_own F.excBase_ValueError (fun Y => PySem.HandSPX.refsVE_contains Y bm refs) (I.kIn _ _ look2) (PySem.W.looks_findIn I.kIn look) (fun self => PySem.W.bind_fn I.kIn self kind) few
    (codeAny_mono (ok.run _ X.stack _ _ ⟨Value.ref (hp.objs.size + 1) :: us, []⟩ _ _ _ (fun _ _ _ => False) (room.make C us []) (J.env0.make C us []) bd vals aim) fun res s2 ends => ?_))
  match res, ends with
  | .error er, ends => exact calm pins σ _ _ er s2 J ends
  | .ok (.ret u), ends =>
    obtain ⟨v, H2, sameOs, bare, un, hok, rv, ev, d, fs, ea, ed, new, fin⟩ := ends
    subst ev
    obtain ⟨h2, g2, d2, t2, os2⟩ := s2
    obtain ⟨t0, G, L, grow, gone, now, off⟩ := mk_end0 (d2 := d2) (t2 := t2) I up1 stays un hok sameOs bare ea ed new
    exact ⟨rv, _, _, _, ⟨G, g2, d2, t2, os2⟩, _, .ref C, some d, rfl, L, grow, gone, now, ⟨rfl, rfl, fun ws q => by cases q; rfl⟩, rfl, rfl, off, rfl, bare, raises_own T.exC T.tyC, fin⟩
  | .ok .next, ends => exact ends.elim
  | .ok .brk, ends => exact ends.elim
  | .ok .cont, ends => exact ends.elim
/-! ### a def that is called while an exception is handled, by its name -/
structure CalH (P : Program) (w : World) (K : PySem.W.Frag) (mg : Str → Option Value) (base : Heap) (k : Nat) (x : Str) (sp : Sp) : Prop where
  ex : ∃ (f : Addr) (fd : FuncData) (ps : List Str), L2H.FnH P w K mg base CX0 k f fd ps sp ∧ mg x = some (.ref f) ∧ PySem.W.keepIn K (.ref f) = true ∧ Binds K fd ps []
theorem calH {X : Cx} {k j : Nat} {sp : Sp} {x : Str} {p pos : Pos} {e : Expr} {es : List Expr} {t : TA} (c : CalH X.prog X.w X.K X.mg X.base k x sp) (hr : L2H.RoomH j X.A) (hk : k ≤ j) (hc : L2H.HotC X) (hg : Gl X x) (ha : PA X (e :: es) t)
    (nodb : (x == ("__debug__" : Str)) = false := by decide) (he : starEach (e :: es) X.env = (false, eval e X.env) :: starEach es X.env := by rfl) (flat : (backTo pos (starEach es X.env)).any (·.1) = false := by rfl) :
    PE X (.Call (.Name x p) (e :: es) [] pos) (tCallS sp (fun _ => E0) t) := by
  obtain ⟨f, fd, ps, F, hm, kp, b⟩ := c.ex
  exact L2H.pe_callH F (hr.mono hk) hc hg hm kp b (fun σ pins H s e' s' I h => False.elim h) ha nodb he flat
/-! ### a local name that holds one of several defs -/
structure HeldD (P : Program) (w : World) (K : PySem.W.Frag) (mg : Str → Option Value) (base : Heap) (k : Nat) (f : Addr) (sp : Sp) : Prop where
  ex : ∃ (j : Nat) (fd : FuncData) (ps : List Str), j ≤ k ∧ FnOk P w K mg base (L2N.CX P w) j f fd ps sp ∧ PySem.W.keepIn K (.ref f) = true ∧ Binds K fd ps []
def tCallD (i : Nat) (S : Addr → Sp → Prop) (E : L2.St → XK) (t : TA) : TE := fun σ H Q => ∃ f sp, σ[i]? = some (some (.ref f)) ∧ S f sp ∧ t σ H fun vs H1 => sp vs H1 Q (E σ)
theorem pe_callD {X : Cx} {k i : Nat} {S : Addr → Sp → Prop} {E : L2.St → XK} {x : Str} {p pos : Pos} {e : Expr} {es : List Expr} {t : TA} (A : ∀ f sp, S f sp → HeldD X.prog X.w X.K X.mg X.base k f sp) (hr : Room k X.A) (hN : X.N[i]? = some x) (hv : Vis X.env.scope x)
    (hx : ∀ σ, PassesAt (L2N.CX X.prog X.w) X σ (E σ)) (ha : PA X (e :: es) t)
    (nodb : (x == ("__debug__" : Str)) = false := by decide) (nocd : (x == ("__classdict__" : Str)) = false := by decide)
    (he : starEach (e :: es) X.env = (false, eval e X.env) :: starEach es X.env := by rfl) (flat : (backTo pos (starEach es X.env)).any (·.1) = false := by rfl) : PE X (.Call (.Name x p) (e :: es) [] pos) (tCallD i S E t) := by
  constructor
  intro pins s slots H Q I asks
  obtain ⟨f, sp, here, one, args⟩ := asks
  obtain ⟨j, fd, ps, less, ok, keep, bind⟩ := (A f sp one).ex
  have name := (pe_var (pos := p) hN hv nodb nocd).run pins s slots H (fun v H1 => v = .ref f ∧ H1 = H) I ⟨.ref f, here, rfl, rfl⟩
  refine wpAny_Call_Name_kw (thn name fun u s1 ⟨v, H1, J, same, ev, eH⟩ => ?_)
  subst ev eH
  cases same
  refine PySem.W.callWith_K (h₀ := X.base) I.ok.mod.kin keep (thn (ha.run pos pins s1 slots _ _ J args) fun us s2 ⟨vs, H2, L, rel, goes⟩ => ⟨L.kIn, ?_⟩) he flat
  exact run_fnS ok (hr.mono less) bind (hx slots) L rel goes
end SB

/-! ## SP0 -/
set_option maxHeartbeats 4000000
namespace SP
open PySem PySem.Spec PyProof.Rows L2 SB
abbrev Plain := R7244e.Spec.Plain
abbrev Chain := R7244e.Spec.Chain
abbrev Bias := R7244e.Spec.Bias
/-- what the written part says: classes, constants, built-in names -/
structure TX (K : PySem.W.Frag) (mg : Str → Option Value) where
  Drawn : Addr
  clDrawn : Cls K Drawn
  gDrawn : mg "Drawn" = some (.ref Drawn)
  nDrawn_chain : NoAttr K Drawn "chain"
  nDrawn_below : NoAttr K Drawn "below"
  nDrawn_weights : NoAttr K Drawn "weights"
  Rule : Addr
  clRule : Cls K Rule
  gRule : mg "Rule" = some (.ref Rule)
  nRule_drawn : NoAttr K Rule "drawn"
  nRule_start : NoAttr K Rule "start"
  nRule_rates : NoAttr K Rule "rates"
  nRule_coverages : NoAttr K Rule "coverages"
  Nothing : Addr
  clNothing : Cls K Nothing
  gNothing : mg "Nothing" = some (.ref Nothing)
  nNothing_octets : NoAttr K Nothing "octets"
  Text : Addr
  clText : Cls K Text
  gText : mg "Text" = some (.ref Text)
  nText_octets : NoAttr K Text "octets"
  Record : Addr
  clRecord : Cls K Record
  gRecord : mg "Record" = some (.ref Record)
  nRecord_members : NoAttr K Record "members"
  Row : Addr
  clRow : Cls K Row
  gRow : mg "Row" = some (.ref Row)
  nRow_octets : NoAttr K Row "octets"
  nRow_place : NoAttr K Row "place"
  Walk : Addr
  clWalk : Cls K Walk
  gWalk : mg "Walk" = some (.ref Walk)
  nWalk_rule : NoAttr K Walk "rule"
  nWalk_word : NoAttr K Walk "word"
  nWalk_is_started : NoAttr K Walk "is_started"
  nWalk_is_finished : NoAttr K Walk "is_finished"
  Enumeration : Addr
  clEnumeration : Cls K Enumeration
  gEnumeration : mg "Enumeration" = some (.ref Enumeration)
  nEnumeration_rule : NoAttr K Enumeration "rule"
  nEnumeration_remaining : NoAttr K Enumeration "remaining"
  nEnumeration_many : NoAttr K Enumeration "many"
  nEnumeration_last : NoAttr K Enumeration "last"
  nEnumeration_is_finished : NoAttr K Enumeration "is_finished"
  Slots : Addr
  clSlots : Cls K Slots
  gSlots : mg "Slots" = some (.ref Slots)
  nSlots_walks : NoAttr K Slots "walks"
  nSlots_enumerations : NoAttr K Slots "enumerations"
  Refused : Addr
  gRefused : mg "Refused" = some (.ref Refused)
  tWRAP : Tok
  gWRAP : mg "WRAP" = some (.int 18446744073709551616 tWRAP)
  tWRONG_KIND : Tok
  gWRONG_KIND : mg "WRONG_KIND" = some (.int 1 tWRONG_KIND)
  tOUT_OF_RANGE : Tok
  gOUT_OF_RANGE : mg "OUT_OF_RANGE" = some (.int 2 tOUT_OF_RANGE)
  tMOST_LETTERS : Tok
  gMOST_LETTERS : mg "MOST_LETTERS" = some (.int 8 tMOST_LETTERS)
  tMOST_LENGTH : Tok
  gMOST_LENGTH : mg "MOST_LENGTH" = some (.int 4 tMOST_LENGTH)
  tMOST_STATES : Tok
  gMOST_STATES : mg "MOST_STATES" = some (.int 3 tMOST_STATES)
  tMOST_STEPS : Tok
  gMOST_STEPS : mg "MOST_STEPS" = some (.int 8 tMOST_STEPS)
  ZERO : Addr
  gZERO : mg "ZERO" = some (.ref ZERO)
  hZERO : ∀ H : Hp, SqT K H ZERO [.int 0, .int 1]
  ONE : Addr
  gONE : mg "ONE" = some (.ref ONE)
  hONE : ∀ H : Hp, SqT K H ONE [.int 1, .int 1]
  LETTERS : Addr
  gLETTERS : mg "LETTERS" = some (.ref LETTERS)
  hLETTERS : ∀ H : Hp, SqT K H LETTERS [.int 97, .int 98]
  SIZES : Addr
  gSIZES : mg "SIZES" = some (.ref SIZES)
  hSIZES : ∀ H : Hp, SqT K H SIZES (sizes.map fun (n : Nat) => V.int n)
  DOORS : Addr
  gDOORS : mg "DOORS" = some (.ref DOORS)
  door : Nat → Addr
  hDOORS : ∀ H : Hp, SqT K H DOORS ((List.range 19).map fun i => V.ref (door i))
  b_len : mg "len" = none
  b_isinstance : mg "isinstance" = none
  b_abs : mg "abs" = none
  b_all : mg "all" = none
  b_sum : mg "sum" = none
  b_ord : mg "ord" = none
  b_str : mg "str" = none
  b_list : mg "list" = none
  b_tuple : mg "tuple" = none
  b_range : mg "range" = none
  b_enumerate : mg "enumerate" = none
  b_zip : mg "zip" = none
  b_reversed : mg "reversed" = none
  b_int : mg "int" = none
  b_ValueError : mg "ValueError" = none
  obj : ∀ C, (C = Nothing ∨ C = Text ∨ C = Record) → PySem.W.findIn K (.ref C) "__class__" = some (some (.builtin "object.__class__")) ∧ PySem.W.specialIn K (.builtin "object.__class__") "__get__" = some (some (.builtin "getset_descriptor.__get__")) ∧ PySem.W.takesIn K (.builtin "object.__class__") = some true ∧ PySem.W.mroIn K C (.type "object") = some true
  kitB : ∀ t C, t ∈ ["NoneType", "bool", "int", "str", "list"] → (C = Nothing ∨ C = Text ∨ C = Record) → PySem.W.kitOne K (.type t) (.ref C) = some false
  kitO : ∀ t C, t ∈ ["int", "str", "list"] → (C = Nothing ∨ C = Text ∨ C = Record) → PySem.W.kitOne K (.ref C) (.type t) = some false
  kitE : ∀ C D, (C = Nothing ∨ C = Text ∨ C = Record) → (D = Nothing ∨ D = Text ∨ D = Record) → C ≠ D → PySem.W.kitOne K (.ref C) (.ref D) = some false
  neNT : Nothing ≠ Text
  neNR : Nothing ≠ Record
  neTR : Text ≠ Record
  neWR : Walk ≠ Rule
  neWD : Walk ≠ Drawn
  neER : Enumeration ≠ Rule
  neED : Enumeration ≠ Drawn
  neSR : Slots ≠ Rule
  neSD : Slots ≠ Drawn
  neWE : Walk ≠ Enumeration
  neWS : Walk ≠ Slots
  neES : Enumeration ≠ Slots
/-! ### what changes: all that was tracked stands but at M -/
def Chg (M : Addr → Prop) (H H' : Hp) : Prop := ∀ b o, H b = some o → ¬ M b → H' b = some o
theorem Chg.refl {M : Addr → Prop} (H : Hp) : Chg M H H := fun _ _ e _ => e
theorem Chg.of_same {M : Addr → Prop} {H H' : Hp} (s : Same H H') : Chg M H H' := fun b o e _ => s b o e
theorem Chg.trans {M : Addr → Prop} {H H1 H2 : Hp} (a : Chg M H H1) (b : Chg M H1 H2) : Chg M H H2 := fun c o e n => b c o (a c o e n) n
theorem Chg.mono {M N : Addr → Prop} {H H' : Hp} (a : Chg M H H') (h : ∀ b, M b → N b) : Chg N H H' := fun c o e n => a c o e fun z => n (h c z)
theorem same_upd {H : Hp} {p : Addr} {o : HO} (h : H p = none) : Same H (upd H p o) := fun b u e => by rw [upd_ne (ne_of_none e h)]; exact e
theorem same_upd2 {H H1 : Hp} {p : Addr} {o : HO} (s : Same H H1) (h : H p = none) : Same H (upd H1 p o) := fun b u e => by rw [upd_ne (ne_of_none e h)]; exact s b u e
theorem chg_upd {M : Addr → Prop} {H H1 : Hp} {p : Addr} {o : HO} (s : Chg M H H1) (h : H p = none ∨ M p) : Chg M H (upd H1 p o) := fun b u e n => by
  have ne : b ≠ p := by
    rcases h with h | h
    · exact ne_of_none e h
    · exact fun z => n (z ▸ h)
  rw [upd_ne ne]
  exact s b u e n
section
variable {K : PySem.W.Frag} {M : Addr → Prop} {H H' : Hp} {a : Addr} {xs : List V}
/-- nothing of M is a tuple, or a list of I, .. -/
theorem Chg.tup (s : Chg M H H') (h : SqT K H a xs) (n : ∀ o, H a = some o → ¬ M a) : SqT K H' a xs := by
  rcases h with (h | ⟨o, h⟩) | h
  · exact .inl (.inl (s _ _ h (n _ h)))
  · exact .inl (.inr ⟨o, s _ _ h (n _ h)⟩)
  · exact .inr h
theorem Chg.lst (s : Chg M H H') (h : SqL K H a xs) (n : ∀ o, H a = some o → ¬ M a) : SqL K H' a xs := by
  rcases h with (h | ⟨o, h⟩) | h
  · exact .inl (.inl (s _ _ h (n _ h)))
  · exact .inl (.inr ⟨o, s _ _ h (n _ h)⟩)
  · exact .inr h
theorem same_tup (s : Same H H') (h : SqT K H a xs) : SqT K H' a xs := by
  rcases h with (h | ⟨o, h⟩) | h
  · exact .inl (.inl (s _ _ h))
  · exact .inl (.inr ⟨o, s _ _ h⟩)
  · exact .inr h
end
/-- M does not touch tuples, nor the lists of I, nor instances of C -/
structure Off (M I : Addr → Prop) (H : Hp) : Prop where
  tup : ∀ b xs, M b → H b ≠ some (.tup xs)
  ftup : ∀ b o u, M b → H b ≠ some (.frz o u)
  lst : ∀ b xs, M b → I b → H b ≠ some (.lst xs)
theorem Off.sqT {K : PySem.W.Frag} {M I : Addr → Prop} {H H' : Hp} {a : Addr} {xs : List V} (f : Off M I H) (s : Chg M H H') (h : SqT K H a xs) : SqT K H' a xs := by
  rcases h with (h | ⟨o, h⟩) | h
  · exact .inl (.inl (s _ _ h fun m => f.tup _ _ m h))
  · exact .inl (.inr ⟨o, s _ _ h fun m => f.ftup _ _ _ m h⟩)
  · exact .inr h
theorem Off.sqL {K : PySem.W.Frag} {M I : Addr → Prop} {H H' : Hp} {a : Addr} {xs : List V} (f : Off M I H) (s : Chg M H H') (i : I a) (h : SqL K H a xs) : SqL K H' a xs :=
  by
  rcases h with (h | ⟨o, h⟩) | h
  · exact .inl (.inl (s _ _ h fun m => f.lst _ _ m i h))
  · exact .inl (.inr ⟨o, s _ _ h fun m => f.ftup _ _ _ m h⟩)
  · exact .inr h

/-! ### how data lies in the heap -/
section
variable (K : PySem.W.Frag) (I : Addr → Prop) (H : Hp)
abbrev intT (n : Nat) : V := .int (n : Nat)
def FrAt (v : V) (x : Rat) : Prop := ∃ a, v = .ref a ∧ SqT K H a [.int x.num, .int (x.den : Nat)]
def FrsAt (v : V) (xs : List Rat) : Prop := ∃ a vs, v = .ref a ∧ I a ∧ SqL K H a vs ∧ Paired (FrAt K H) vs xs
def WdAt (v : V) (w : List Nat) : Prop := ∃ a, v = .ref a ∧ SqT K H a (w.map intT)
def StAt (v : V) (e : Nat × Nat) : Prop := ∃ a, v = .ref a ∧ I a ∧ SqL K H a [intT e.1, intT e.2]
def ChAt (v : V) (t : Chain) : Prop := ∃ a vs, v = .ref a ∧ I a ∧ SqL K H a vs ∧ Paired (StAt K I H) vs t
def NtAt (v : V) (ns : List Nat) : Prop := ∃ a, v = .ref a ∧ I a ∧ SqL K H a (ns.map intT)
end
section
variable {K : PySem.W.Frag} {M I : Addr → Prop} {H H' : Hp} {v : V}
theorem FrAt.off {x : Rat} (f : Off M I H) (s : Chg M H H') (h : FrAt K H v x) : FrAt K H' v x := by
  obtain ⟨a, e, q⟩ := h
  exact ⟨a, e, f.sqT s q⟩
theorem FrAt.same {x : Rat} (s : Same H H') (h : FrAt K H v x) : FrAt K H' v x := by
  obtain ⟨a, e, q⟩ := h
  exact ⟨a, e, same_tup s q⟩
theorem Paired.imp {α β : Type} {F G : α → β → Prop} (i : ∀ a b, F a b → G a b) : ∀ {l : List α} {m : List β}, Paired F l m → Paired G l m
  | _, _, .nil => .nil
  | _, _, .cons h t => .cons (i _ _ h) (Paired.imp i t)
theorem Paired.at {α β : Type} {F : α → β → Prop} : ∀ {l : List α} {m : List β} {i : Nat} {x : α}, Paired F l m → l[i]? = some x → ∃ y, m[i]? = some y ∧ F x y
  | _, _, _, _, .nil, e => by simp at e
  | _, _, 0, _, .cons h t, e => by simp at e; subst e; exact ⟨_, rfl, h⟩
  | _, _, i + 1, x, .cons h t, e => by
    obtain ⟨y, h1, h2⟩ := Paired.at (i := i) (x := x) t (by simpa using e)
    exact ⟨y, by simpa using h1, h2⟩
theorem Paired.at' {α β : Type} {F : α → β → Prop} : ∀ {l : List α} {m : List β} {i : Nat} {y : β}, Paired F l m → m[i]? = some y → ∃ x, l[i]? = some x ∧ F x y
  | _, _, _, _, .nil, e => by simp at e
  | _, _, 0, _, .cons h t, e => by simp at e; subst e; exact ⟨_, rfl, h⟩
  | _, _, i + 1, x, .cons h t, e => by
    obtain ⟨y, h1, h2⟩ := Paired.at' (i := i) (y := x) t (by simpa using e)
    exact ⟨y, by simpa using h1, h2⟩
theorem Paired.snoc {α β : Type} {F : α → β → Prop} : ∀ {l : List α} {m : List β} {x : α} {y : β}, Paired F l m → F x y → Paired F (l ++ [x]) (m ++ [y])
  | _, _, _, _, .nil, h => .cons h .nil
  | _, _, _, _, .cons h t, q => .cons h (Paired.snoc t q)
theorem FrsAt.off {xs : List Rat} (f : Off M I H) (s : Chg M H H') (h : FrsAt K I H v xs) : FrsAt K I H' v xs := by
  obtain ⟨a, vs, e, i, q, p⟩ := h
  exact ⟨a, vs, e, i, f.sqL s i q, Paired.imp (fun _ _ h => FrAt.off f s h) p⟩
theorem FrsAt.same {xs : List Rat} (s : Same H H') (h : FrsAt K I H v xs) : FrsAt K I H' v xs := by
  obtain ⟨a, vs, e, i, q, p⟩ := h
  exact ⟨a, vs, e, i, Same.seq s q, Paired.imp (fun _ _ h => FrAt.same s h) p⟩
theorem WdAt.off {w : List Nat} (f : Off M I H) (s : Chg M H H') (h : WdAt K H v w) : WdAt K H' v w := by
  obtain ⟨a, e, q⟩ := h
  exact ⟨a, e, f.sqT s q⟩
theorem WdAt.same {w : List Nat} (s : Same H H') (h : WdAt K H v w) : WdAt K H' v w := by
  obtain ⟨a, e, q⟩ := h
  exact ⟨a, e, same_tup s q⟩
theorem StAt.off {e : Nat × Nat} (f : Off M I H) (s : Chg M H H') (h : StAt K I H v e) : StAt K I H' v e := by
  obtain ⟨a, e, i, q⟩ := h
  exact ⟨a, e, i, f.sqL s i q⟩
theorem StAt.same {e : Nat × Nat} (s : Same H H') (h : StAt K I H v e) : StAt K I H' v e := by
  obtain ⟨a, e, i, q⟩ := h
  exact ⟨a, e, i, Same.seq s q⟩
theorem ChAt.off {t : Chain} (f : Off M I H) (s : Chg M H H') (h : ChAt K I H v t) : ChAt K I H' v t := by
  obtain ⟨a, vs, e, i, q, p⟩ := h
  exact ⟨a, vs, e, i, f.sqL s i q, Paired.imp (fun _ _ h => StAt.off f s h) p⟩
theorem ChAt.same {t : Chain} (s : Same H H') (h : ChAt K I H v t) : ChAt K I H' v t := by
  obtain ⟨a, vs, e, i, q, p⟩ := h
  exact ⟨a, vs, e, i, Same.seq s q, Paired.imp (fun _ _ h => StAt.same s h) p⟩
theorem NtAt.same {ns : List Nat} (s : Same H H') (h : NtAt K I H v ns) : NtAt K I H' v ns := by
  obtain ⟨a, e, i, q⟩ := h
  exact ⟨a, e, i, Same.seq s q⟩
theorem StAt.mono {I' : Addr → Prop} {e : Nat × Nat} (j : ∀ b, I b → I' b) (h : StAt K I H v e) : StAt K I' H v e := by
  obtain ⟨a, e, i, q⟩ := h
  exact ⟨a, e, j _ i, q⟩
theorem ChAt.mono {I' : Addr → Prop} {t : Chain} (j : ∀ b, I b → I' b) (h : ChAt K I H v t) : ChAt K I' H v t := by
  obtain ⟨a, vs, e, i, q, p⟩ := h
  exact ⟨a, vs, e, j _ i, q, Paired.imp (fun _ _ h => StAt.mono j h) p⟩
theorem FrsAt.mono {I' : Addr → Prop} {xs : List Rat} (j : ∀ b, I b → I' b) (h : FrsAt K I H v xs) : FrsAt K I' H v xs := by
  obtain ⟨a, vs, e, i, q, p⟩ := h
  exact ⟨a, vs, e, j _ i, q, p⟩
end
/-- any list may be -/
def Any : Addr → Prop := fun _ => True
end SP

/-! ## SP1 -/
set_option maxHeartbeats 4000000
namespace SP
open PySem PySem.Spec PyProof.Rows L2 SB
open SS (VC VG R Sz RateOk treeW ratesOf leadsTo)
open R7244e.Spec (reachable recurrentStates hasOneClass canMeet distribution wordProb endState coverage separation unstopped stopProbs survival entry)
section
variable {K : PySem.W.Frag} {mg : Str → Option Value} (T : TX K mg)
/-- new since H, or of I -/
def FreshA (H H' : Hp) : Addr → Prop := fun b => H b = none ∧ H' b ≠ none
def New (I : Addr → Prop) (H H' : Hp) : Addr → Prop := fun b => I b ∨ FreshA H H' b
def Fresh (H : Hp) : Addr → Prop := fun b => H b = none

/-! ### chains.py: the promises -/
def sp_divisor (T : TX K mg) : Sp := fun vs H Q _ => ∃ (a b : Nat), vs = [intT a, intT b] ∧ Q (intT (Nat.gcd a b)) H
def sp_fraction (T : TX K mg) : Sp := fun vs H Q _ => ∃ (a : Int) (b : Nat), vs = [.int a, intT b] ∧ 0 < b ∧ b < 2 ^ 8000 ∧ ∀ H' v, Same H H' → FrAt K H' v (mkRat a b) → Q v H'
def sp_less (T : TX K mg) : Sp := fun vs H Q _ => ∃ (v w : V) (x y : Rat), vs = [v, w] ∧ FrAt K H v x ∧ FrAt K H w y ∧ Sz 1000 x ∧ Sz 1000 y ∧ ∀ H' r, Same H H' → FrAt K H' r (x - y) → Q r H'
def sp_times (T : TX K mg) : Sp := fun vs H Q _ => ∃ (v w : V) (x y : Rat), vs = [v, w] ∧ FrAt K H v x ∧ FrAt K H w y ∧ Sz 1000 x ∧ Sz 1000 y ∧ ∀ H' r, Same H H' → FrAt K H' r (x * y) → Q r H'
def sp_over (T : TX K mg) : Sp := fun vs H Q _ => ∃ (v w : V) (x y : Rat), vs = [v, w] ∧ FrAt K H v x ∧ FrAt K H w y ∧ Sz 1000 x ∧ Sz 1000 y ∧ 0 < y ∧ ∀ H' r, Same H H' → FrAt K H' r (x / y) → Q r H'
def sp_is_below (T : TX K mg) : Sp := fun vs H Q _ => ∃ (v w : V) (x y : Rat), vs = [v, w] ∧ FrAt K H v x ∧ FrAt K H w y ∧ Sz 1000 x ∧ Sz 1000 y ∧ Q (.bl (decide (x < y))) H
def sp_reached (T : TX K mg) : Sp := fun vs H Q _ => ∃ (c : V) (t : Chain) (s : Nat), vs = [c, intT s] ∧ VC t ∧ s < t.length ∧ ChAt K Any H c t ∧ ∀ (H' : Hp) (p : Addr) (told : List Nat), Same H H' → H' p = some (.lst (told.map intT)) → (∀ x, x ∈ told ↔ R t s x) → told.length ≤ 3 → Q (.ref p) H'
def sp_recurrent (T : TX K mg) : Sp := fun vs H Q _ => ∃ (c : V) (t : Chain), vs = [c] ∧ VC t ∧ ChAt K Any H c t ∧ ∀ (H' : Hp) (p : Addr), Same H H' → H' p = some (.lst ((recurrentStates t).map intT)) → Q (.ref p) H'
def sp_has_single_class (T : TX K mg) : Sp := fun vs H Q _ => ∃ (c : V) (t : Chain), vs = [c] ∧ VC t ∧ ChAt K Any H c t ∧ ∀ H', Same H H' → Q (.bl (hasOneClass t)) H'
def sp_can_meet (T : TX K mg) : Sp := fun vs H Q _ => ∃ (c : V) (t : Chain) (p q : Nat), vs = [c, intT p, intT q] ∧ VC t ∧ p < t.length ∧ q < t.length ∧ ChAt K Any H c t ∧ ∀ H', Same H H' → Q (.bl (canMeet t p q)) H'
def sp_is_periodic (T : TX K mg) : Sp := fun vs H Q _ => ∃ (c : V) (t : Chain), vs = [c] ∧ VC t ∧ ChAt K Any H c t ∧ ∀ H', Same H H' → Q (.bl (!((recurrentStates t).all fun p => (recurrentStates t).all fun q => canMeet t p q))) H'
def sp_leads_to (T : TX K mg) : Sp := fun vs H Q _ => ∃ (a : Addr) (ts : List Nat) (s root : Nat), vs = [.ref a, intT s, intT root] ∧ SqL K H a (ts.map intT) ∧ ts.length ≤ 3 ∧ (∀ x ∈ ts, x < ts.length) ∧ s < ts.length ∧ Q (.bl (leadsTo ts s root)) H
def sp_tree_weight (T : TX K mg) : Sp := fun vs H Q _ => ∃ (c : V) (t : Chain) (ws : Addr) (g : Bias) (root : Nat), vs = [c, .ref ws, intT root] ∧ VC t ∧ VG g ∧ root < t.length ∧ ChAt K Any H c t ∧ SqL K H ws [intT g.1, intT (g.2 - g.1)] ∧ ∀ H', Same H H' → Q (intT (treeW t g root)) H'
/-! ### Drawn -/
def DrAt (I : Addr → Prop) (H : Hp) (v : V) (t : Chain) (g : Bias) : Prop := ∃ (a dx : Addr) (c : V) (ws : Addr), v = .ref a ∧ H a = some (.ins T.Drawn dx [("chain", c), ("below", intT g.2), ("weights", .ref ws)]) ∧ ChAt K I H c t ∧ I ws ∧ SqL K H ws [intT g.1, intT (g.2 - g.1)]
def sp_Drawn___init__ : Sp := fun vs H Q _ => ∃ (x dx : Addr) (c : V) (ba : Addr) (g : Bias), vs = [.ref x, c, .ref ba] ∧ H x = some (.ins T.Drawn dx []) ∧ SqL K H ba [intT g.1, intT g.2] ∧ g.1 ≤ g.2 ∧
  ∀ (H' : Hp) (ws : Addr), Chg (· = x) H H' → H ws = none → H' x = some (.ins T.Drawn dx [("chain", c), ("below", intT g.2), ("weights", .ref ws)]) → H' ws = some (.lst [intT g.1, intT (g.2 - g.1)]) → Q .non H'
def sp_Drawn_stationary : Sp := fun vs H Q _ => ∃ (v : V) (t : Chain) (g : Bias), vs = [v] ∧ VC t ∧ VG g ∧ RateOk t g (ratesOf t g) ∧ DrAt T Any H v t g ∧ ∀ H' r, Same H H' → FrsAt K (FreshA H H') H' r (ratesOf t g) → Q r H'
def sp_Drawn_distribution : Sp := fun vs H Q _ => ∃ (v : V) (t : Chain) (g : Bias) (p n : Nat), vs = [v, intT p, intT n] ∧ VC t ∧ VG g ∧ p < t.length ∧ n ≤ 9 ∧ DrAt T Any H v t g ∧ ∀ H' r, Same H H' → FrsAt K (Fresh H) H' r (distribution t g p n) → Q r H'
def Let (w : List Nat) : Prop := ∀ c ∈ w, c < 2
def sp_Drawn_probability_of : Sp := fun vs H Q _ => ∃ (v wv : V) (t : Chain) (g : Bias) (w : List Nat), vs = [v, wv] ∧ VC t ∧ VG g ∧ DrAt T Any H v t g ∧ WdAt K H wv w ∧ w.length ≤ 8 ∧ Let w ∧ ∀ H' r, Same H H' → FrAt K H' r (wordProb g w) → Q r H'
def sp_Drawn_state_behind : Sp := fun vs H Q _ => ∃ (v wv : V) (t : Chain) (g : Bias) (s : Nat) (w : List Nat), vs = [v, intT s, wv] ∧ VC t ∧ DrAt T Any H v t g ∧ s < t.length ∧ WdAt K H wv w ∧ w.length ≤ 8 ∧ Let w ∧ Q (intT (endState t s w)) H
/-! ### Rule -/
structure Ru where
  t : Chain
  g : Bias
  y : List Rat
  p : Nat
structure VR (R : Ru) : Prop where
  v : VC R.t
  g : VG R.g
  p : R.p < R.t.length
  r : RateOk R.t R.g R.y
structure CovOk (K : PySem.W.Frag) (R : Ru) (H : Hp) (kvs : List (Key × V)) : Prop where
  ok : ∀ kv ∈ kvs, ∃ n : Nat, n ≤ 8 ∧ kv.1 = .inl (n : Nat) ∧ FrAt K H kv.2 (coverage R.t R.g R.y R.p n)
  nd : (kvs.map (·.1)).Nodup
def RuAt (I : Addr → Prop) (H : Hp) (v : V) (cd : Addr) (R : Ru) : Prop := ∃ (a dx : Addr) (d rs : V) (kvs : List (Key × V)), v = .ref a ∧ H a = some (.ins T.Rule dx [("drawn", d), ("start", intT R.p), ("rates", rs), ("coverages", .ref cd)]) ∧
  DrAt T I H d R.t R.g ∧ FrsAt K I H rs R.y ∧ H cd = some (.dK kvs) ∧ CovOk K R H kvs
def sp_Rule___init__ : Sp := fun vs H Q _ => ∃ (x dx : Addr) (d : V) (I : Addr → Prop) (t : Chain) (g : Bias) (p : Nat), vs = [.ref x, d, intT p] ∧ H x = some (.ins T.Rule dx []) ∧ VR ⟨t, g, ratesOf t g, p⟩ ∧ DrAt T I H d t g ∧
  ∀ (H' : Hp) (cd : Addr), Chg (· = x) H H' → H cd = none → RuAt T (New I H H') H' (.ref x) cd ⟨t, g, ratesOf t g, p⟩ → Q .non H'
def covI (R : Ru) (i : Int) : Rat := if i < 0 then 0 else coverage R.t R.g R.y R.p i.toNat
def sp_Rule_coverage : Sp := fun vs H Q _ => ∃ (v : V) (cd : Addr) (R : Ru) (i : Int) (I : Addr → Prop), vs = [v, .int i] ∧ VR R ∧ i ≤ 8 ∧ RuAt T I H v cd R ∧ ∀ H' r, Chg (· = cd) H H' → RuAt T I H' v cd R → FrAt K H' r (covI R i) → Q r H'
def sp_Rule_separation : Sp := fun vs H Q _ => ∃ (v : V) (cd : Addr) (R : Ru) (n : Nat) (I : Addr → Prop), vs = [v, intT n] ∧ VR R ∧ n ≤ 8 ∧ RuAt T I H v cd R ∧ ∀ H' r, Chg (· = cd) H H' → RuAt T I H' v cd R → FrAt K H' r (separation R.t R.g R.y R.p n) → Q r H'
def sp_Rule_unstopped : Sp := fun vs H Q _ => ∃ (v : V) (cd : Addr) (R : Ru) (n : Nat) (I : Addr → Prop), vs = [v, intT n] ∧ VR R ∧ n ≤ 8 ∧ RuAt T I H v cd R ∧ ∀ H' r, Chg (· = cd) H H' → RuAt T I H' v cd R → FrsAt K (Fresh H) H' r (unstopped R.t R.g R.y R.p n) → Q r H'
def sp_Rule_stops : Sp := fun vs H Q _ => ∃ (v : V) (cd : Addr) (R : Ru) (n : Nat) (I : Addr → Prop), vs = [v, intT n] ∧ VR R ∧ n ≤ 8 ∧ RuAt T I H v cd R ∧ ∀ H' r, Chg (· = cd) H H' → RuAt T I H' v cd R → FrsAt K (Fresh H) H' r (stopProbs R.t R.g R.y R.p n) → Q r H'
def sp_Rule_stop_at : Sp := fun vs H Q _ => ∃ (v wv : V) (cd : Addr) (R : Ru) (w : List Nat) (I : Addr → Prop), vs = [v, wv] ∧ VR R ∧ WdAt K H wv w ∧ w.length ≤ 8 ∧ Let w ∧ RuAt T I H v cd R ∧ ∀ H' r, Chg (· = cd) H H' → RuAt T I H' v cd R → FrAt K H' r (entry (stopProbs R.t R.g R.y R.p w.length) (endState R.t R.p w)) → Q r H'
def sp_Rule_may_continue : Sp := fun vs H Q _ => ∃ (v wv : V) (cd : Addr) (R : Ru) (w : List Nat) (I : Addr → Prop), vs = [v, wv] ∧ VR R ∧ WdAt K H wv w ∧ w.length ≤ 8 ∧ Let w ∧ RuAt T I H v cd R ∧ ∀ H', Chg (· = cd) H H' → RuAt T I H' v cd R → Q (.bl (survival R.t R.g R.y R.p w != 0)) H'
end
section
variable {K : PySem.W.Frag} {mg : Str → Option Value} {T : TX K mg} {M I : Addr → Prop} {H H' : Hp} {v : V}
/-- M holds no Rule, no Drawn -/
structure OffR (T : TX K mg) (M I : Addr → Prop) (H : Hp) : Prop extends Off M I H where
  ins : ∀ b C dx fs, M b → H b = some (.ins C dx fs) → C ≠ T.Rule ∧ C ≠ T.Drawn
theorem DrAt.off {t : Chain} {g : Bias} (f : OffR T M I H) (s : Chg M H H') (h : DrAt T I H v t g) : DrAt T I H' v t g := by
  obtain ⟨a, dx, c, ws, e, ha, hc, hi, hw⟩ := h
  exact ⟨a, dx, c, ws, e, s _ _ ha (fun m => (f.ins _ _ _ _ m ha).2 rfl), hc.off f.toOff s, hi, f.toOff.sqL s hi hw⟩
theorem DrAt.same {t : Chain} {g : Bias} (s : Same H H') (h : DrAt T I H v t g) : DrAt T I H' v t g := by
  obtain ⟨a, dx, c, ws, e, ha, hc, hi, hw⟩ := h
  exact ⟨a, dx, c, ws, e, s _ _ ha, hc.same s, hi, Same.seq s hw⟩
theorem DrAt.mono {I' : Addr → Prop} {t : Chain} {g : Bias} (j : ∀ b, I b → I' b) (h : DrAt T I H v t g) : DrAt T I' H v t g := by
  obtain ⟨a, dx, c, ws, e, ha, hc, hi, hw⟩ := h
  exact ⟨a, dx, c, ws, e, ha, hc.mono j, j _ hi, hw⟩
theorem DrAt.any {t : Chain} {g : Bias} (h : DrAt T I H v t g) : DrAt T Any H v t g := h.mono fun _ _ => trivial
theorem CovOk.off {R : Ru} {kvs : List (Key × V)} (f : Off M I H) (s : Chg M H H') (h : CovOk K R H kvs) : CovOk K R H' kvs :=
  ⟨fun kv hk => let ⟨n, h1, h2, h3⟩ := h.ok kv hk; ⟨n, h1, h2, h3.off f s⟩, h.nd⟩
theorem CovOk.same {R : Ru} {kvs : List (Key × V)} (s : Same H H') (h : CovOk K R H kvs) : CovOk K R H' kvs :=
  ⟨fun kv hk => let ⟨n, h1, h2, h3⟩ := h.ok kv hk; ⟨n, h1, h2, h3.same s⟩, h.nd⟩
theorem RuAt.off {cd : Addr} {R : Ru} (f : OffR T M I H) (n : ¬ M cd) (s : Chg M H H') (h : RuAt T I H v cd R) : RuAt T I H' v cd R := by
  obtain ⟨a, dx, d, rs, kvs, e, ha, hd, hr, hc, ok⟩ := h
  exact ⟨a, dx, d, rs, kvs, e, s _ _ ha (fun m => (f.ins _ _ _ _ m ha).1 rfl), hd.off f s, hr.off f.toOff s, s _ _ hc n, ok.off f.toOff s⟩
theorem RuAt.same {cd : Addr} {R : Ru} (s : Same H H') (h : RuAt T I H v cd R) : RuAt T I H' v cd R := by
  obtain ⟨a, dx, d, rs, kvs, e, ha, hd, hr, hc, ok⟩ := h
  exact ⟨a, dx, d, rs, kvs, e, s _ _ ha, hd.same s, hr.same s, s _ _ hc, ok.same s⟩
theorem RuAt.mono {I' : Addr → Prop} {cd : Addr} {R : Ru} (j : ∀ b, I b → I' b) (h : RuAt T I H v cd R) : RuAt T I' H v cd R := by
  obtain ⟨a, dx, d, rs, kvs, e, ha, hd, hr, hc, ok⟩ := h
  exact ⟨a, dx, d, rs, kvs, e, ha, hd.mono j, hr.mono j, hc, ok⟩
/-- a dict is off -/
theorem offD {cd : Addr} {kvs : List (Key × V)} (h : H cd = some (.dK kvs)) : OffR T (· = cd) I H where
  tup := fun b xs e q => by subst e; rw [h] at q; cases q
  ftup := fun b o u e q => by subst e; rw [h] at q; cases q
  lst := fun b xs e _ q => by subst e; rw [h] at q; cases q
  ins := fun b C dx fs e q => by subst e; rw [h] at q; cases q
theorem RuAt.cd {cd : Addr} {R : Ru} (h : RuAt T I H v cd R) : ∃ kvs, H cd = some (.dK kvs) := by
  obtain ⟨a, dx, d, rs, kvs, e, ha, hd, hr, hc, ok⟩ := h
  exact ⟨kvs, hc⟩
theorem RuAt.offR {cd : Addr} {R : Ru} (h : RuAt T I H v cd R) : OffR T (· = cd) I H := by
  obtain ⟨kvs, hc⟩ := h.cd
  exact offD hc
/-- tuples stand while a rule works -/
theorem RuAt.frs {cd : Addr} {R : Ru} {J : Addr → Prop} {x : V} {xs : List Rat} (h : RuAt T I H v cd R) (s : Chg (· = cd) H H') (q : FrsAt K J H x xs) : FrsAt K J H' x xs := by
  obtain ⟨kvs, hc⟩ := h.cd
  exact q.off (offD (T := T) hc).toOff s
theorem RuAt.fr {cd : Addr} {R : Ru} {x : V} {y : Rat} (h : RuAt T I H v cd R) (s : Chg (· = cd) H H') (q : FrAt K H x y) : FrAt K H' x y := by
  obtain ⟨kvs, hc⟩ := h.cd
  exact q.off (I := Any) (offD (T := T) hc).toOff s
theorem RuAt.wd {cd : Addr} {R : Ru} {x : V} {w : List Nat} (h : RuAt T I H v cd R) (s : Chg (· = cd) H H') (q : WdAt K H x w) : WdAt K H' x w := by
  obtain ⟨kvs, hc⟩ := h.cd
  exact q.off (I := Any) (offD (T := T) hc).toOff s
end
end SP

/-! ## SP2 -/
set_option maxHeartbeats 4000000
namespace SP
open PySem PySem.Spec PyProof.Rows L2 SB
theorem lk0 {k : Str} {v : V} {r : List (Str × V)} : List.lookup k ((k, v) :: r) = some v := by
  have e : (k == k) = true := beq_self_eq_true k
  simp only [List.lookup, e]
theorem lkS {k g : Str} {v : V} {r : List (Str × V)} {z : Option V} (h : (k == g) = false) (e : List.lookup k r = z) : List.lookup k ((g, v) :: r) = z := by
  simp only [List.lookup, h]
  exact e
theorem pf0 {f : Str} {v x : V} {r : List (Str × V)} : putF f v ((f, x) :: r) = (f, v) :: r := if_pos rfl
theorem pfS {f g : Str} {v x : V} {r s : List (Str × V)} (h : ¬ g = f) (e : putF f v r = s) : putF f v ((g, x) :: r) = (g, x) :: s := (if_neg h).trans (congrArg _ e)
theorem lkDrawn_chain {v0 v1 v2 : V} : List.lookup ("chain" : Str) ([("chain", v0), ("below", v1), ("weights", v2)] : List (Str × V)) = some v0 := lk0
theorem pfDrawn_chain {v0 v1 v2 : V} {x : V} : putF "chain" x ([("chain", v0), ("below", v1), ("weights", v2)] : List (Str × V)) = ([("chain", x), ("below", v1), ("weights", v2)] : List (Str × V)) := pf0
theorem pnDrawn_chain  {x : V} : putF "chain" x ([] : List (Str × V)) = ([("chain", x)] : List (Str × V)) := rfl
theorem lkDrawn_below {v0 v1 v2 : V} : List.lookup ("below" : Str) ([("chain", v0), ("below", v1), ("weights", v2)] : List (Str × V)) = some v1 := (lkS (by decide +kernel) lk0)
theorem pfDrawn_below {v0 v1 v2 : V} {x : V} : putF "below" x ([("chain", v0), ("below", v1), ("weights", v2)] : List (Str × V)) = ([("chain", v0), ("below", x), ("weights", v2)] : List (Str × V)) := (pfS (by decide +kernel) pf0)
theorem pnDrawn_below {v0 : V} {x : V} : putF "below" x ([("chain", v0)] : List (Str × V)) = ([("chain", v0), ("below", x)] : List (Str × V)) := (pfS (by decide +kernel) rfl)
theorem lkDrawn_weights {v0 v1 v2 : V} : List.lookup ("weights" : Str) ([("chain", v0), ("below", v1), ("weights", v2)] : List (Str × V)) = some v2 := (lkS (by decide +kernel) (lkS (by decide +kernel) lk0))
theorem pfDrawn_weights {v0 v1 v2 : V} {x : V} : putF "weights" x ([("chain", v0), ("below", v1), ("weights", v2)] : List (Str × V)) = ([("chain", v0), ("below", v1), ("weights", x)] : List (Str × V)) := (pfS (by decide +kernel) (pfS (by decide +kernel) pf0))
theorem pnDrawn_weights {v0 v1 : V} {x : V} : putF "weights" x ([("chain", v0), ("below", v1)] : List (Str × V)) = ([("chain", v0), ("below", v1), ("weights", x)] : List (Str × V)) := (pfS (by decide +kernel) (pfS (by decide +kernel) rfl))
theorem noDrawn_stationary {v0 v1 v2 : V} : List.lookup ("stationary" : Str) ([("chain", v0), ("below", v1), ("weights", v2)] : List (Str × V)) = none := (lkS (by decide +kernel) (lkS (by decide +kernel) (lkS (by decide +kernel) rfl)))
theorem noDrawn_distribution {v0 v1 v2 : V} : List.lookup ("distribution" : Str) ([("chain", v0), ("below", v1), ("weights", v2)] : List (Str × V)) = none := (lkS (by decide +kernel) (lkS (by decide +kernel) (lkS (by decide +kernel) rfl)))
theorem noDrawn_probability_of {v0 v1 v2 : V} : List.lookup ("probability_of" : Str) ([("chain", v0), ("below", v1), ("weights", v2)] : List (Str × V)) = none := (lkS (by decide +kernel) (lkS (by decide +kernel) (lkS (by decide +kernel) rfl)))
theorem noDrawn_state_behind {v0 v1 v2 : V} : List.lookup ("state_behind" : Str) ([("chain", v0), ("below", v1), ("weights", v2)] : List (Str × V)) = none := (lkS (by decide +kernel) (lkS (by decide +kernel) (lkS (by decide +kernel) rfl)))
theorem lkRule_drawn {v0 v1 v2 v3 : V} : List.lookup ("drawn" : Str) ([("drawn", v0), ("start", v1), ("rates", v2), ("coverages", v3)] : List (Str × V)) = some v0 := lk0
theorem pfRule_drawn {v0 v1 v2 v3 : V} {x : V} : putF "drawn" x ([("drawn", v0), ("start", v1), ("rates", v2), ("coverages", v3)] : List (Str × V)) = ([("drawn", x), ("start", v1), ("rates", v2), ("coverages", v3)] : List (Str × V)) := pf0
theorem pnRule_drawn  {x : V} : putF "drawn" x ([] : List (Str × V)) = ([("drawn", x)] : List (Str × V)) := rfl
theorem lkRule_start {v0 v1 v2 v3 : V} : List.lookup ("start" : Str) ([("drawn", v0), ("start", v1), ("rates", v2), ("coverages", v3)] : List (Str × V)) = some v1 := (lkS (by decide +kernel) lk0)
theorem pfRule_start {v0 v1 v2 v3 : V} {x : V} : putF "start" x ([("drawn", v0), ("start", v1), ("rates", v2), ("coverages", v3)] : List (Str × V)) = ([("drawn", v0), ("start", x), ("rates", v2), ("coverages", v3)] : List (Str × V)) := (pfS (by decide +kernel) pf0)
theorem pnRule_start {v0 : V} {x : V} : putF "start" x ([("drawn", v0)] : List (Str × V)) = ([("drawn", v0), ("start", x)] : List (Str × V)) := (pfS (by decide +kernel) rfl)
theorem lkRule_rates {v0 v1 v2 v3 : V} : List.lookup ("rates" : Str) ([("drawn", v0), ("start", v1), ("rates", v2), ("coverages", v3)] : List (Str × V)) = some v2 := (lkS (by decide +kernel) (lkS (by decide +kernel) lk0))
theorem pfRule_rates {v0 v1 v2 v3 : V} {x : V} : putF "rates" x ([("drawn", v0), ("start", v1), ("rates", v2), ("coverages", v3)] : List (Str × V)) = ([("drawn", v0), ("start", v1), ("rates", x), ("coverages", v3)] : List (Str × V)) := (pfS (by decide +kernel) (pfS (by decide +kernel) pf0))
theorem pnRule_rates {v0 v1 : V} {x : V} : putF "rates" x ([("drawn", v0), ("start", v1)] : List (Str × V)) = ([("drawn", v0), ("start", v1), ("rates", x)] : List (Str × V)) := (pfS (by decide +kernel) (pfS (by decide +kernel) rfl))
theorem lkRule_coverages {v0 v1 v2 v3 : V} : List.lookup ("coverages" : Str) ([("drawn", v0), ("start", v1), ("rates", v2), ("coverages", v3)] : List (Str × V)) = some v3 := (lkS (by decide +kernel) (lkS (by decide +kernel) (lkS (by decide +kernel) lk0)))
theorem pfRule_coverages {v0 v1 v2 v3 : V} {x : V} : putF "coverages" x ([("drawn", v0), ("start", v1), ("rates", v2), ("coverages", v3)] : List (Str × V)) = ([("drawn", v0), ("start", v1), ("rates", v2), ("coverages", x)] : List (Str × V)) := (pfS (by decide +kernel) (pfS (by decide +kernel) (pfS (by decide +kernel) pf0)))
theorem pnRule_coverages {v0 v1 v2 : V} {x : V} : putF "coverages" x ([("drawn", v0), ("start", v1), ("rates", v2)] : List (Str × V)) = ([("drawn", v0), ("start", v1), ("rates", v2), ("coverages", x)] : List (Str × V)) := (pfS (by decide +kernel) (pfS (by decide +kernel) (pfS (by decide +kernel) rfl)))
theorem noRule_coverage {v0 v1 v2 v3 : V} : List.lookup ("coverage" : Str) ([("drawn", v0), ("start", v1), ("rates", v2), ("coverages", v3)] : List (Str × V)) = none := (lkS (by decide +kernel) (lkS (by decide +kernel) (lkS (by decide +kernel) (lkS (by decide +kernel) rfl))))
theorem noRule_separation {v0 v1 v2 v3 : V} : List.lookup ("separation" : Str) ([("drawn", v0), ("start", v1), ("rates", v2), ("coverages", v3)] : List (Str × V)) = none := (lkS (by decide +kernel) (lkS (by decide +kernel) (lkS (by decide +kernel) (lkS (by decide +kernel) rfl))))
theorem noRule_unstopped {v0 v1 v2 v3 : V} : List.lookup ("unstopped" : Str) ([("drawn", v0), ("start", v1), ("rates", v2), ("coverages", v3)] : List (Str × V)) = none := (lkS (by decide +kernel) (lkS (by decide +kernel) (lkS (by decide +kernel) (lkS (by decide +kernel) rfl))))
theorem noRule_stops {v0 v1 v2 v3 : V} : List.lookup ("stops" : Str) ([("drawn", v0), ("start", v1), ("rates", v2), ("coverages", v3)] : List (Str × V)) = none := (lkS (by decide +kernel) (lkS (by decide +kernel) (lkS (by decide +kernel) (lkS (by decide +kernel) rfl))))
theorem noRule_stop_at {v0 v1 v2 v3 : V} : List.lookup ("stop_at" : Str) ([("drawn", v0), ("start", v1), ("rates", v2), ("coverages", v3)] : List (Str × V)) = none := (lkS (by decide +kernel) (lkS (by decide +kernel) (lkS (by decide +kernel) (lkS (by decide +kernel) rfl))))
theorem noRule_may_continue {v0 v1 v2 v3 : V} : List.lookup ("may_continue" : Str) ([("drawn", v0), ("start", v1), ("rates", v2), ("coverages", v3)] : List (Str × V)) = none := (lkS (by decide +kernel) (lkS (by decide +kernel) (lkS (by decide +kernel) (lkS (by decide +kernel) rfl))))
theorem lkNothing_octets {v0 : V} : List.lookup ("octets" : Str) ([("octets", v0)] : List (Str × V)) = some v0 := lk0
theorem pfNothing_octets {v0 : V} {x : V} : putF "octets" x ([("octets", v0)] : List (Str × V)) = ([("octets", x)] : List (Str × V)) := pf0
theorem pnNothing_octets  {x : V} : putF "octets" x ([] : List (Str × V)) = ([("octets", x)] : List (Str × V)) := rfl
theorem lkText_octets {v0 : V} : List.lookup ("octets" : Str) ([("octets", v0)] : List (Str × V)) = some v0 := lk0
theorem pfText_octets {v0 : V} {x : V} : putF "octets" x ([("octets", v0)] : List (Str × V)) = ([("octets", x)] : List (Str × V)) := pf0
theorem pnText_octets  {x : V} : putF "octets" x ([] : List (Str × V)) = ([("octets", x)] : List (Str × V)) := rfl
theorem lkRecord_members {v0 : V} : List.lookup ("members" : Str) ([("members", v0)] : List (Str × V)) = some v0 := lk0
theorem pfRecord_members {v0 : V} {x : V} : putF "members" x ([("members", v0)] : List (Str × V)) = ([("members", x)] : List (Str × V)) := pf0
theorem pnRecord_members  {x : V} : putF "members" x ([] : List (Str × V)) = ([("members", x)] : List (Str × V)) := rfl
theorem lkRow_octets {v0 v1 : V} : List.lookup ("octets" : Str) ([("octets", v0), ("place", v1)] : List (Str × V)) = some v0 := lk0
theorem pfRow_octets {v0 v1 : V} {x : V} : putF "octets" x ([("octets", v0), ("place", v1)] : List (Str × V)) = ([("octets", x), ("place", v1)] : List (Str × V)) := pf0
theorem pnRow_octets  {x : V} : putF "octets" x ([] : List (Str × V)) = ([("octets", x)] : List (Str × V)) := rfl
theorem lkRow_place {v0 v1 : V} : List.lookup ("place" : Str) ([("octets", v0), ("place", v1)] : List (Str × V)) = some v1 := (lkS (by decide +kernel) lk0)
theorem pfRow_place {v0 v1 : V} {x : V} : putF "place" x ([("octets", v0), ("place", v1)] : List (Str × V)) = ([("octets", v0), ("place", x)] : List (Str × V)) := (pfS (by decide +kernel) pf0)
theorem pnRow_place {v0 : V} {x : V} : putF "place" x ([("octets", v0)] : List (Str × V)) = ([("octets", v0), ("place", x)] : List (Str × V)) := (pfS (by decide +kernel) rfl)
theorem noRow_take {v0 v1 : V} : List.lookup ("take" : Str) ([("octets", v0), ("place", v1)] : List (Str × V)) = none := (lkS (by decide +kernel) (lkS (by decide +kernel) rfl))
theorem noRow_count {v0 v1 : V} : List.lookup ("count" : Str) ([("octets", v0), ("place", v1)] : List (Str × V)) = none := (lkS (by decide +kernel) (lkS (by decide +kernel) rfl))
theorem noRow_one_value {v0 v1 : V} : List.lookup ("one_value" : Str) ([("octets", v0), ("place", v1)] : List (Str × V)) = none := (lkS (by decide +kernel) (lkS (by decide +kernel) rfl))
theorem lkWalk_rule {v0 v1 v2 v3 : V} : List.lookup ("rule" : Str) ([("rule", v0), ("word", v1), ("is_started", v2), ("is_finished", v3)] : List (Str × V)) = some v0 := lk0
theorem pfWalk_rule {v0 v1 v2 v3 : V} {x : V} : putF "rule" x ([("rule", v0), ("word", v1), ("is_started", v2), ("is_finished", v3)] : List (Str × V)) = ([("rule", x), ("word", v1), ("is_started", v2), ("is_finished", v3)] : List (Str × V)) := pf0
theorem pnWalk_rule  {x : V} : putF "rule" x ([] : List (Str × V)) = ([("rule", x)] : List (Str × V)) := rfl
theorem lkWalk_word {v0 v1 v2 v3 : V} : List.lookup ("word" : Str) ([("rule", v0), ("word", v1), ("is_started", v2), ("is_finished", v3)] : List (Str × V)) = some v1 := (lkS (by decide +kernel) lk0)
theorem pfWalk_word {v0 v1 v2 v3 : V} {x : V} : putF "word" x ([("rule", v0), ("word", v1), ("is_started", v2), ("is_finished", v3)] : List (Str × V)) = ([("rule", v0), ("word", x), ("is_started", v2), ("is_finished", v3)] : List (Str × V)) := (pfS (by decide +kernel) pf0)
theorem pnWalk_word {v0 : V} {x : V} : putF "word" x ([("rule", v0)] : List (Str × V)) = ([("rule", v0), ("word", x)] : List (Str × V)) := (pfS (by decide +kernel) rfl)
theorem lkWalk_is_started {v0 v1 v2 v3 : V} : List.lookup ("is_started" : Str) ([("rule", v0), ("word", v1), ("is_started", v2), ("is_finished", v3)] : List (Str × V)) = some v2 := (lkS (by decide +kernel) (lkS (by decide +kernel) lk0))
theorem pfWalk_is_started {v0 v1 v2 v3 : V} {x : V} : putF "is_started" x ([("rule", v0), ("word", v1), ("is_started", v2), ("is_finished", v3)] : List (Str × V)) = ([("rule", v0), ("word", v1), ("is_started", x), ("is_finished", v3)] : List (Str × V)) := (pfS (by decide +kernel) (pfS (by decide +kernel) pf0))
theorem pnWalk_is_started {v0 v1 : V} {x : V} : putF "is_started" x ([("rule", v0), ("word", v1)] : List (Str × V)) = ([("rule", v0), ("word", v1), ("is_started", x)] : List (Str × V)) := (pfS (by decide +kernel) (pfS (by decide +kernel) rfl))
theorem lkWalk_is_finished {v0 v1 v2 v3 : V} : List.lookup ("is_finished" : Str) ([("rule", v0), ("word", v1), ("is_started", v2), ("is_finished", v3)] : List (Str × V)) = some v3 := (lkS (by decide +kernel) (lkS (by decide +kernel) (lkS (by decide +kernel) lk0)))
theorem pfWalk_is_finished {v0 v1 v2 v3 : V} {x : V} : putF "is_finished" x ([("rule", v0), ("word", v1), ("is_started", v2), ("is_finished", v3)] : List (Str × V)) = ([("rule", v0), ("word", v1), ("is_started", v2), ("is_finished", x)] : List (Str × V)) := (pfS (by decide +kernel) (pfS (by decide +kernel) (pfS (by decide +kernel) pf0)))
theorem pnWalk_is_finished {v0 v1 v2 : V} {x : V} : putF "is_finished" x ([("rule", v0), ("word", v1), ("is_started", v2)] : List (Str × V)) = ([("rule", v0), ("word", v1), ("is_started", v2), ("is_finished", x)] : List (Str × V)) := (pfS (by decide +kernel) (pfS (by decide +kernel) (pfS (by decide +kernel) rfl)))
theorem noWalk_is_running {v0 v1 v2 v3 : V} : List.lookup ("is_running" : Str) ([("rule", v0), ("word", v1), ("is_started", v2), ("is_finished", v3)] : List (Str × V)) = none := (lkS (by decide +kernel) (lkS (by decide +kernel) (lkS (by decide +kernel) (lkS (by decide +kernel) rfl))))
theorem noWalk_state {v0 v1 v2 v3 : V} : List.lookup ("state" : Str) ([("rule", v0), ("word", v1), ("is_started", v2), ("is_finished", v3)] : List (Str × V)) = none := (lkS (by decide +kernel) (lkS (by decide +kernel) (lkS (by decide +kernel) (lkS (by decide +kernel) rfl))))
theorem noWalk_report {v0 v1 v2 v3 : V} : List.lookup ("report" : Str) ([("rule", v0), ("word", v1), ("is_started", v2), ("is_finished", v3)] : List (Str × V)) = none := (lkS (by decide +kernel) (lkS (by decide +kernel) (lkS (by decide +kernel) (lkS (by decide +kernel) rfl))))
theorem noWalk_go_on {v0 v1 v2 v3 : V} : List.lookup ("go_on" : Str) ([("rule", v0), ("word", v1), ("is_started", v2), ("is_finished", v3)] : List (Str × V)) = none := (lkS (by decide +kernel) (lkS (by decide +kernel) (lkS (by decide +kernel) (lkS (by decide +kernel) rfl))))
theorem noWalk_signal {v0 v1 v2 v3 : V} : List.lookup ("signal" : Str) ([("rule", v0), ("word", v1), ("is_started", v2), ("is_finished", v3)] : List (Str × V)) = none := (lkS (by decide +kernel) (lkS (by decide +kernel) (lkS (by decide +kernel) (lkS (by decide +kernel) rfl))))
theorem lkEnumeration_rule {v0 v1 v2 v3 v4 : V} : List.lookup ("rule" : Str) ([("rule", v0), ("remaining", v1), ("many", v2), ("last", v3), ("is_finished", v4)] : List (Str × V)) = some v0 := lk0
theorem pfEnumeration_rule {v0 v1 v2 v3 v4 : V} {x : V} : putF "rule" x ([("rule", v0), ("remaining", v1), ("many", v2), ("last", v3), ("is_finished", v4)] : List (Str × V)) = ([("rule", x), ("remaining", v1), ("many", v2), ("last", v3), ("is_finished", v4)] : List (Str × V)) := pf0
theorem pnEnumeration_rule  {x : V} : putF "rule" x ([] : List (Str × V)) = ([("rule", x)] : List (Str × V)) := rfl
theorem lkEnumeration_remaining {v0 v1 v2 v3 v4 : V} : List.lookup ("remaining" : Str) ([("rule", v0), ("remaining", v1), ("many", v2), ("last", v3), ("is_finished", v4)] : List (Str × V)) = some v1 := (lkS (by decide +kernel) lk0)
theorem pfEnumeration_remaining {v0 v1 v2 v3 v4 : V} {x : V} : putF "remaining" x ([("rule", v0), ("remaining", v1), ("many", v2), ("last", v3), ("is_finished", v4)] : List (Str × V)) = ([("rule", v0), ("remaining", x), ("many", v2), ("last", v3), ("is_finished", v4)] : List (Str × V)) := (pfS (by decide +kernel) pf0)
theorem pnEnumeration_remaining {v0 : V} {x : V} : putF "remaining" x ([("rule", v0)] : List (Str × V)) = ([("rule", v0), ("remaining", x)] : List (Str × V)) := (pfS (by decide +kernel) rfl)
theorem lkEnumeration_many {v0 v1 v2 v3 v4 : V} : List.lookup ("many" : Str) ([("rule", v0), ("remaining", v1), ("many", v2), ("last", v3), ("is_finished", v4)] : List (Str × V)) = some v2 := (lkS (by decide +kernel) (lkS (by decide +kernel) lk0))
theorem pfEnumeration_many {v0 v1 v2 v3 v4 : V} {x : V} : putF "many" x ([("rule", v0), ("remaining", v1), ("many", v2), ("last", v3), ("is_finished", v4)] : List (Str × V)) = ([("rule", v0), ("remaining", v1), ("many", x), ("last", v3), ("is_finished", v4)] : List (Str × V)) := (pfS (by decide +kernel) (pfS (by decide +kernel) pf0))
theorem pnEnumeration_many {v0 v1 : V} {x : V} : putF "many" x ([("rule", v0), ("remaining", v1)] : List (Str × V)) = ([("rule", v0), ("remaining", v1), ("many", x)] : List (Str × V)) := (pfS (by decide +kernel) (pfS (by decide +kernel) rfl))
theorem lkEnumeration_last {v0 v1 v2 v3 v4 : V} : List.lookup ("last" : Str) ([("rule", v0), ("remaining", v1), ("many", v2), ("last", v3), ("is_finished", v4)] : List (Str × V)) = some v3 := (lkS (by decide +kernel) (lkS (by decide +kernel) (lkS (by decide +kernel) lk0)))
theorem pfEnumeration_last {v0 v1 v2 v3 v4 : V} {x : V} : putF "last" x ([("rule", v0), ("remaining", v1), ("many", v2), ("last", v3), ("is_finished", v4)] : List (Str × V)) = ([("rule", v0), ("remaining", v1), ("many", v2), ("last", x), ("is_finished", v4)] : List (Str × V)) := (pfS (by decide +kernel) (pfS (by decide +kernel) (pfS (by decide +kernel) pf0)))
theorem pnEnumeration_last {v0 v1 v2 : V} {x : V} : putF "last" x ([("rule", v0), ("remaining", v1), ("many", v2)] : List (Str × V)) = ([("rule", v0), ("remaining", v1), ("many", v2), ("last", x)] : List (Str × V)) := (pfS (by decide +kernel) (pfS (by decide +kernel) (pfS (by decide +kernel) rfl)))
theorem lkEnumeration_is_finished {v0 v1 v2 v3 v4 : V} : List.lookup ("is_finished" : Str) ([("rule", v0), ("remaining", v1), ("many", v2), ("last", v3), ("is_finished", v4)] : List (Str × V)) = some v4 := (lkS (by decide +kernel) (lkS (by decide +kernel) (lkS (by decide +kernel) (lkS (by decide +kernel) lk0))))
theorem pfEnumeration_is_finished {v0 v1 v2 v3 v4 : V} {x : V} : putF "is_finished" x ([("rule", v0), ("remaining", v1), ("many", v2), ("last", v3), ("is_finished", v4)] : List (Str × V)) = ([("rule", v0), ("remaining", v1), ("many", v2), ("last", v3), ("is_finished", x)] : List (Str × V)) := (pfS (by decide +kernel) (pfS (by decide +kernel) (pfS (by decide +kernel) (pfS (by decide +kernel) pf0))))
theorem pnEnumeration_is_finished {v0 v1 v2 v3 : V} {x : V} : putF "is_finished" x ([("rule", v0), ("remaining", v1), ("many", v2), ("last", v3)] : List (Str × V)) = ([("rule", v0), ("remaining", v1), ("many", v2), ("last", v3), ("is_finished", x)] : List (Str × V)) := (pfS (by decide +kernel) (pfS (by decide +kernel) (pfS (by decide +kernel) (pfS (by decide +kernel) rfl))))
theorem noEnumeration_advance {v0 v1 v2 v3 v4 : V} : List.lookup ("advance" : Str) ([("rule", v0), ("remaining", v1), ("many", v2), ("last", v3), ("is_finished", v4)] : List (Str × V)) = none := (lkS (by decide +kernel) (lkS (by decide +kernel) (lkS (by decide +kernel) (lkS (by decide +kernel) (lkS (by decide +kernel) rfl)))))
theorem noEnumeration_go_on {v0 v1 v2 v3 v4 : V} : List.lookup ("go_on" : Str) ([("rule", v0), ("remaining", v1), ("many", v2), ("last", v3), ("is_finished", v4)] : List (Str × V)) = none := (lkS (by decide +kernel) (lkS (by decide +kernel) (lkS (by decide +kernel) (lkS (by decide +kernel) (lkS (by decide +kernel) rfl)))))
theorem noEnumeration_signal {v0 v1 v2 v3 v4 : V} : List.lookup ("signal" : Str) ([("rule", v0), ("remaining", v1), ("many", v2), ("last", v3), ("is_finished", v4)] : List (Str × V)) = none := (lkS (by decide +kernel) (lkS (by decide +kernel) (lkS (by decide +kernel) (lkS (by decide +kernel) (lkS (by decide +kernel) rfl)))))
theorem noEnumeration_finish {v0 v1 v2 v3 v4 : V} : List.lookup ("finish" : Str) ([("rule", v0), ("remaining", v1), ("many", v2), ("last", v3), ("is_finished", v4)] : List (Str × V)) = none := (lkS (by decide +kernel) (lkS (by decide +kernel) (lkS (by decide +kernel) (lkS (by decide +kernel) (lkS (by decide +kernel) rfl)))))
theorem noEnumeration_collect {v0 v1 v2 v3 v4 : V} : List.lookup ("collect" : Str) ([("rule", v0), ("remaining", v1), ("many", v2), ("last", v3), ("is_finished", v4)] : List (Str × V)) = none := (lkS (by decide +kernel) (lkS (by decide +kernel) (lkS (by decide +kernel) (lkS (by decide +kernel) (lkS (by decide +kernel) rfl)))))
theorem lkSlots_walks {v0 v1 : V} : List.lookup ("walks" : Str) ([("walks", v0), ("enumerations", v1)] : List (Str × V)) = some v0 := lk0
theorem pfSlots_walks {v0 v1 : V} {x : V} : putF "walks" x ([("walks", v0), ("enumerations", v1)] : List (Str × V)) = ([("walks", x), ("enumerations", v1)] : List (Str × V)) := pf0
theorem pnSlots_walks  {x : V} : putF "walks" x ([] : List (Str × V)) = ([("walks", x)] : List (Str × V)) := rfl
theorem lkSlots_enumerations {v0 v1 : V} : List.lookup ("enumerations" : Str) ([("walks", v0), ("enumerations", v1)] : List (Str × V)) = some v1 := (lkS (by decide +kernel) lk0)
theorem pfSlots_enumerations {v0 v1 : V} {x : V} : putF "enumerations" x ([("walks", v0), ("enumerations", v1)] : List (Str × V)) = ([("walks", v0), ("enumerations", x)] : List (Str × V)) := (pfS (by decide +kernel) pf0)
theorem pnSlots_enumerations {v0 : V} {x : V} : putF "enumerations" x ([("walks", v0)] : List (Str × V)) = ([("walks", v0), ("enumerations", x)] : List (Str × V)) := (pfS (by decide +kernel) rfl)
end SP

/-! ## SP3 -/
set_option maxHeartbeats 4000000
namespace SP
open PySem PySem.Spec PyProof.Rows L2 SB
open SS (VC VG R Sz RateOk treeW ratesOf leadsTo)
open R7244e.Spec (target)
theorem seqI {t u : TS} {D : Ends} {σ : L2.St} {H : Hp} (h : t { D with nx := u D } σ H) : tSeq t u D σ H := h
theorem lcYes {σ : L2.St} {H : Hp} {A B : Hp → Prop} (h : A H) : tYes σ H (fun b H' => if b = true then A H' else B H') := by
  show (if true = true then A H else B H)
  rw [if_pos rfl]
  exact h
theorem inV_int (x : Nat) (l : List Nat) : inV (intT x) (l.map intT) = l.contains x := by
  unfold inV
  rw [List.any_map, Bool.eq_iff_iff, List.any_eq_true, List.contains_iff_mem]
  constructor
  · rintro ⟨y, hy, e⟩
    have e : (((y : Nat) : Int) == ((x : Nat) : Int)) = true := e
    have : y = x := Int.ofNat.inj (beq_iff_eq.mp e)
    exact this ▸ hy
  · intro h
    exact ⟨x, h, by show (((x : Nat) : Int) == ((x : Nat) : Int)) = true; simp⟩
theorem flat_int (l : List Nat) : (l.map intT).all flatV = true := by
  rw [List.all_map, List.all_eq_true]
  intro x _
  rfl
theorem get_map {α β : Type} {f : α → β} {l : List α} {i : Nat} {y : β} (h : (l.map f)[i]? = some y) : ∃ x, l[i]? = some x ∧ y = f x := by
  rw [List.getElem?_map] at h
  cases e : l[i]? with
  | none => rw [e] at h; cases h
  | some x => rw [e] at h; exact ⟨x, rfl, (Option.some.inj h).symm⟩
theorem map_get {α β : Type} {f : α → β} {l : List α} {i : Nat} {x : α} (h : l[i]? = some x) : (l.map f)[i]? = some (f x) := by
  rw [List.getElem?_map, h]
  rfl
/-- a chain's states, and their targets -/
theorem ChAt.get {K : PySem.W.Frag} {I : Addr → Prop} {H : Hp} {c : V} {t : Chain} (v : VC t) (h : ChAt K I H c t) : ∃ (a : Addr) (vs : List V), c = .ref a ∧ I a ∧ SqL K H a vs ∧ vs.length = t.length ∧
    ∀ s, s < t.length → ∃ b, vs[s]? = some (.ref b) ∧ I b ∧ SqL K H b [intT (target t s 0), intT (target t s 1)] := by
  obtain ⟨a, vs, e, i, q, p⟩ := h
  refine ⟨a, vs, e, i, q, Paired.length p, fun s hs => ?_⟩
  obtain ⟨x, hx, ⟨b, rfl, ib, qb⟩⟩ := Paired.at' p (v.get hs).1
  exact ⟨b, hx, ib, qb⟩
theorem same_lst {H H' : Hp} {p : Addr} {xs : List V} (s : Same H H') (h : H p = some (.lst xs)) : H' p = some (.lst xs) := s _ _ h
theorem le_line {n : Nat} (h : n ≤ 1000000) : n ≤ sizeLine := by rw [sizeLine_eq]; omega
theorem lt_line {n : Nat} (h : n ≤ 1000000) : n < sizeLine := by rw [sizeLine_eq]; omega
/-- a list beside a new object -/
theorem upd_keep {H : Hp} {p q : Addr} {o u : HO} (h : H p = some o) (n : H q = none) : upd H q u p = some o := by
  rw [upd_ne (ne_of_none h n)]
  exact h
/-- all but one list stand: what was tracked ahead stands, too, where the list is newer -/
theorem same_write {H H1 : Hp} {p : Addr} {o : HO} (s : Same H H1) (h : H p = none) : Same H (upd H1 p o) := same_upd2 s h
end SP

/-! ## W1 -/
set_option maxHeartbeats 4000000
namespace SP
open PySem PySem.Spec PyProof.Rows L2 SB
open SS (VC VG R Sz RateOk treeW ratesOf leadsTo)
open R7244e.Spec (reachable recurrentStates hasOneClass canMeet distribution wordProb endState coverage separation unstopped stopProbs survival entry target)
section
variable {P : Program} {w : World} {base : Heap}
variable {K : PySem.W.Frag} {mg : Str → Option Value}

abbrev s_divisor : Stmt := topS 3
theorem sc_divisor : FnScope ["a", "b"] ["a", "b"] (defScope s_divisor) := SB.sc_by (by decide +kernel)
theorem len_divisor {T : TX K mg} : ∀ vs H Q E, sp_divisor T vs H Q E → vs.length = (["a", "b"] : List Str).length := by
  rintro _ H Q E ⟨_, _, rfl, _⟩
  rfl
theorem ok_divisor (T : TX K mg)   {f : Addr} {fd : FuncData} (F : Fun K "divisor" "divisor" s_divisor f fd) : FnOk P w K mg base CX0 1 f fd ["a", "b"] (sp_divisor T) := by
  refine F.ok sc_divisor len_divisor (fun cdv A outer s H vs Q E hr h => ⟨_, (pss_cons (ps_while (by first | exact PassesOwn.never | exact passes_of rfl) (pt_truth (pv 1) (by intro _; rfl)) (pss_one (ps_par (i := 0) (j := 1) (by rfl) sc_divisor.nd rfl rfl (by decide) rfl rfl (pa_cons (pv 1) (pa_cons (pe_op op_mod (pv 0) (pv 1)) pa_nil)) (by rfl)))) (pss_one (ps_ret (pv 0)))), ?_⟩)
  obtain ⟨a, b, rfl, q⟩ := h
  refine while_by (fun σ H' => H' = H ∧ ∃ a' b' : Nat, σ = [some (intT a'), some (intT b')] ∧ Nat.gcd a' b' = Nat.gcd a b) (fun σ _ => match σ[1]? with | some (some (V.int i)) => i.natAbs | _ => 0) ⟨rfl, a, b, rfl, rfl⟩ ?_ ?_
  · rintro σ _ ⟨rfl, a', b', rfl, e⟩
    refine ⟨_, rfl, (((b' : Nat) : Int) != 0), rfl, ?_⟩
    by_cases hb : b' = 0
    · subst hb
      refine iteF ⟨_, rfl, ?_⟩
      rw [Nat.gcd_zero_right] at e
      rw [e]
      exact q
    · have e1 : (((b' : Nat) : Int) != 0) = true := by simp; exact hb
      rw [e1]
      refine iteT ⟨_, rfl, _, rfl, _, rfl, _, _, rfl, rfl, (by show (0 : Int) < (b' : Int); omega), _, _, rfl, ⟨rfl, b', a' % b', ?_, ?_⟩, ?_⟩
      · rfl
      · rw [← e, Nat.gcd_comm a' b', Nat.gcd_rec b' a', Nat.gcd_comm]
      · show ((a' : Int) % (b' : Int)).natAbs < ((b' : Nat) : Int).natAbs
        have := Nat.mod_lt a' (show 0 < b' by omega)
        have e2 : ((a' : Int) % (b' : Int)) = ((a' % b' : Nat) : Int) := rfl
        rw [e2, Int.natAbs_natCast, Int.natAbs_natCast]
        exact this
  · exact fun σ H Q Q' m ⟨v, h1, k, h2, q⟩ => ⟨v, h1, k, h2, m _ _ q⟩
abbrev s_fraction : Stmt := topS 4
theorem sc_fraction : FnScope ["above", "below", "common"] ["above", "below"] (defScope s_fraction) := SB.sc_by (by decide +kernel)
theorem len_fraction {T : TX K mg} : ∀ vs H Q E, sp_fraction T vs H Q E → vs.length = (["above", "below"] : List Str).length := by
  rintro _ H Q E ⟨_, _, rfl, _⟩
  rfl
theorem ok_fraction (T : TX K mg) (c_divisor : SB.Cal P w K mg base 1 "divisor" (sp_divisor T))  {f : Addr} {fd : FuncData} (F : Fun K "fraction" "fraction" s_fraction f fd) : FnOk P w K mg base CX0 2 f fd ["above", "below"] (sp_fraction T) := by
  refine F.ok sc_fraction len_fraction (fun cdv A outer s H vs Q E hr h => ⟨_, (pss_cons (ps_set (i := 2) sc_fraction.nd rfl (by first | exact Or.inl rfl | exact Or.inr rfl) (SB.cal c_divisor hr (by decide) rfl (pa_cons (pe_callB call_abs (by rfl) T.b_abs (by decide +kernel) (pa_cons (pv 0) pa_nil)) (pa_cons (pv 1) pa_nil)))) (pss_one (ps_ret (pe_tup (pa_cons (pe_op op_fdivW (pv 0) (pv 2)) (pa_cons (pe_op op_fdivW (pv 1) (pv 2)) pa_nil)))))), ?_⟩)
  obtain ⟨a, b, rfl, hb, hz, q⟩ := h
  have e1 : (if a < 0 then -a else a) = ((a.natAbs : Nat) : Int) := by split <;> omega
  refine ⟨_, rfl, a, rfl, _, rfl, a.natAbs, b, by rw [e1]; rfl, ?_⟩
  have g0 : 0 < Nat.gcd a.natAbs b := Nat.gcd_pos_of_pos_right _ hb
  have gb : (((Nat.gcd a.natAbs b : Nat) : Int)).natAbs < 2 ^ 8000 := by
    rw [Int.natAbs_natCast]
    exact Nat.lt_of_le_of_lt (Nat.gcd_le_right _ hb) hz
  have cd := fun i => wide_div (i := i) (show (0 : Int) < ((Nat.gcd a.natAbs b : Nat) : Int) by omega) gb (by decide) (by decide)
  refine ⟨_, rfl, _, rfl, _, _, rfl, rfl, cd _, _, rfl, _, rfl, _, _, rfl, rfl, cd _, (by show 2 ≤ sizeLine; decide), fun p hp => ?_⟩
  refine q _ _ (same_upd hp) ⟨p, rfl, SqT.of ?_⟩
  rw [upd_same]
  show some (HO.tup [V.int (a / ((Nat.gcd a.natAbs b : Nat) : Int)), V.int (((b : Nat) : Int) / ((Nat.gcd a.natAbs b : Nat) : Int))]) = _
  rw [SS.frac_num a b hb, SS.frac_den a b hb]
abbrev s_less : Stmt := topS 5
theorem sc_less : FnScope ["one", "other"] ["one", "other"] (defScope s_less) := SB.sc_by (by decide +kernel)
theorem len_less {T : TX K mg} : ∀ vs H Q E, sp_less T vs H Q E → vs.length = (["one", "other"] : List Str).length := by
  rintro _ H Q E ⟨_, _, _, _, rfl, _⟩
  rfl
theorem ok_less (T : TX K mg) (c_fraction : SB.Cal P w K mg base 2 "fraction" (sp_fraction T))  {f : Addr} {fd : FuncData} (F : Fun K "less" "less" s_less f fd) : FnOk P w K mg base CX0 3 f fd ["one", "other"] (sp_less T) := by
  refine F.ok sc_less len_less (fun cdv A outer s H vs Q E hr h => ⟨_, (pss_one (ps_ret (SB.cal c_fraction hr (by decide) rfl (pa_cons (pe_op op_sub (pe_op op_mulW (pe_ix (SB.kIxT (K := K) rfl) (pv 0) pe_int (fun _ _ => rfl)) (pe_ix (SB.kIxT (K := K) rfl) (pv 1) pe_int (fun _ _ => rfl))) (pe_op op_mulW (pe_ix (SB.kIxT (K := K) rfl) (pv 1) pe_int (fun _ _ => rfl)) (pe_ix (SB.kIxT (K := K) rfl) (pv 0) pe_int (fun _ _ => rfl)))) (pa_cons (pe_op op_mulW (pe_ix (SB.kIxT (K := K) rfl) (pv 0) pe_int (fun _ _ => rfl)) (pe_ix (SB.kIxT (K := K) rfl) (pv 1) pe_int (fun _ _ => rfl))) pa_nil))))), ?_⟩)
  obtain ⟨v, w', x, y, rfl, ⟨a, rfl, ha⟩, ⟨b, rfl, hb⟩, sx, sy, q⟩ := h
  have c1 : CMulW x.num (y.den : Nat) := wide_mul sx.1 (by rw [Int.natAbs_natCast]; exact sy.2) (by decide) (by decide) (by decide)
  have c2 : CMulW y.num (x.den : Nat) := wide_mul sy.1 (by rw [Int.natAbs_natCast]; exact sx.2) (by decide) (by decide) (by decide)
  have c3 : CMulW (x.den : Nat) (y.den : Nat) := wide_mul (by rw [Int.natAbs_natCast]; exact sx.2) (by rw [Int.natAbs_natCast]; exact sy.2) (by decide) (by decide) (by decide)
  refine ⟨_, rfl, a, _, 0, _, rfl, rfl, ha, rfl, _, rfl, b, _, 1, _, rfl, rfl, hb, rfl, _, _, rfl, rfl, c1, _, rfl, b, _, 0, _, rfl, rfl, hb, rfl, _, rfl, a, _, 1, _, rfl, rfl, ha, rfl, _, _, rfl, rfl, c2, _, _, rfl, rfl, _, rfl, a, _, 1, _, rfl, rfl, ha, rfl, _, rfl, b, _, 1, _, rfl, rfl, hb, rfl, _, _, rfl, rfl, c3, x.num * (y.den : Nat) - y.num * (x.den : Nat), x.den * y.den, ?_, Nat.mul_pos x.den_pos y.den_pos, ?_, fun H' r s h => q H' r s ?_⟩
  · show [_, V.int (((x.den : Nat) : Int) * ((y.den : Nat) : Int))] = [_, V.int ((x.den * y.den : Nat) : Int)]
    rw [Int.natCast_mul]
  · have := Nat.mul_lt_mul'' sx.2 sy.2
    rw [← Nat.pow_add] at this
    exact Nat.lt_of_lt_of_le this (Nat.pow_le_pow_right (by decide) (by decide))
  · rw [Rat.sub_def']
    exact h
abbrev s_times : Stmt := topS 6
theorem sc_times : FnScope ["one", "other"] ["one", "other"] (defScope s_times) := SB.sc_by (by decide +kernel)
theorem len_times {T : TX K mg} : ∀ vs H Q E, sp_times T vs H Q E → vs.length = (["one", "other"] : List Str).length := by
  rintro _ H Q E ⟨_, _, _, _, rfl, _⟩
  rfl
theorem ok_times (T : TX K mg) (c_fraction : SB.Cal P w K mg base 2 "fraction" (sp_fraction T))  {f : Addr} {fd : FuncData} (F : Fun K "times" "times" s_times f fd) : FnOk P w K mg base CX0 3 f fd ["one", "other"] (sp_times T) := by
  refine F.ok sc_times len_times (fun cdv A outer s H vs Q E hr h => ⟨_, (pss_one (ps_ret (SB.cal c_fraction hr (by decide) rfl (pa_cons (pe_op op_mulW (pe_ix (SB.kIxT (K := K) rfl) (pv 0) pe_int (fun _ _ => rfl)) (pe_ix (SB.kIxT (K := K) rfl) (pv 1) pe_int (fun _ _ => rfl))) (pa_cons (pe_op op_mulW (pe_ix (SB.kIxT (K := K) rfl) (pv 0) pe_int (fun _ _ => rfl)) (pe_ix (SB.kIxT (K := K) rfl) (pv 1) pe_int (fun _ _ => rfl))) pa_nil))))), ?_⟩)
  obtain ⟨v, w', x, y, rfl, ⟨a, rfl, ha⟩, ⟨b, rfl, hb⟩, sx, sy, q⟩ := h
  have c1 : CMulW x.num y.num := wide_mul sx.1 sy.1 (by decide) (by decide) (by decide)
  have c3 : CMulW (x.den : Nat) (y.den : Nat) := wide_mul (by rw [Int.natAbs_natCast]; exact sx.2) (by rw [Int.natAbs_natCast]; exact sy.2) (by decide) (by decide) (by decide)
  refine ⟨_, rfl, a, _, 0, _, rfl, rfl, ha, rfl, _, rfl, b, _, 0, _, rfl, rfl, hb, rfl, _, _, rfl, rfl, c1, _, rfl, a, _, 1, _, rfl, rfl, ha, rfl, _, rfl, b, _, 1, _, rfl, rfl, hb, rfl, _, _, rfl, rfl, c3, x.num * y.num, x.den * y.den, ?_, Nat.mul_pos x.den_pos y.den_pos, ?_, fun H' r s h => q H' r s ?_⟩
  · show [_, V.int (((x.den : Nat) : Int) * ((y.den : Nat) : Int))] = [_, V.int ((x.den * y.den : Nat) : Int)]
    rw [Int.natCast_mul]
  · have := Nat.mul_lt_mul'' sx.2 sy.2
    rw [← Nat.pow_add] at this
    exact Nat.lt_of_lt_of_le this (Nat.pow_le_pow_right (by decide) (by decide))
  · rw [Rat.mul_def']
    exact h
abbrev s_over : Stmt := topS 7
theorem sc_over : FnScope ["one", "other"] ["one", "other"] (defScope s_over) := SB.sc_by (by decide +kernel)
theorem len_over {T : TX K mg} : ∀ vs H Q E, sp_over T vs H Q E → vs.length = (["one", "other"] : List Str).length := by
  rintro _ H Q E ⟨_, _, _, _, rfl, _⟩
  rfl
theorem ok_over (T : TX K mg) (c_fraction : SB.Cal P w K mg base 2 "fraction" (sp_fraction T))  {f : Addr} {fd : FuncData} (F : Fun K "over" "over" s_over f fd) : FnOk P w K mg base CX0 3 f fd ["one", "other"] (sp_over T) := by
  refine F.ok sc_over len_over (fun cdv A outer s H vs Q E hr h => ⟨_, (pss_one (ps_ret (SB.cal c_fraction hr (by decide) rfl (pa_cons (pe_op op_mulW (pe_ix (SB.kIxT (K := K) rfl) (pv 0) pe_int (fun _ _ => rfl)) (pe_ix (SB.kIxT (K := K) rfl) (pv 1) pe_int (fun _ _ => rfl))) (pa_cons (pe_op op_mulW (pe_ix (SB.kIxT (K := K) rfl) (pv 0) pe_int (fun _ _ => rfl)) (pe_ix (SB.kIxT (K := K) rfl) (pv 1) pe_int (fun _ _ => rfl))) pa_nil))))), ?_⟩)
  obtain ⟨v, w', x, y, rfl, ⟨a, rfl, ha⟩, ⟨b, rfl, hb⟩, sx, sy, hy, q⟩ := h
  have hn : 0 < y.num := by
    have := (Rat.lt_iff 0 y).mp hy
    simpa using this
  have c1 : CMulW x.num (y.den : Nat) := wide_mul sx.1 (by rw [Int.natAbs_natCast]; exact sy.2) (by decide) (by decide) (by decide)
  have c3 : CMulW (x.den : Nat) y.num := wide_mul (by rw [Int.natAbs_natCast]; exact sx.2) sy.1 (by decide) (by decide) (by decide)
  refine ⟨_, rfl, a, _, 0, _, rfl, rfl, ha, rfl, _, rfl, b, _, 1, _, rfl, rfl, hb, rfl, _, _, rfl, rfl, c1, _, rfl, a, _, 1, _, rfl, rfl, ha, rfl, _, rfl, b, _, 0, _, rfl, rfl, hb, rfl, _, _, rfl, rfl, c3, x.num * (y.den : Nat), x.den * y.num.natAbs, ?_, Nat.mul_pos x.den_pos (by omega), ?_, fun H' r s h => q H' r s ?_⟩
  · show [_, V.int (((x.den : Nat) : Int) * y.num)] = [_, V.int ((x.den * y.num.natAbs : Nat) : Int)]
    rw [Int.natCast_mul, Int.natAbs_of_nonneg (by omega)]
  · have := Nat.mul_lt_mul'' sx.2 sy.1
    rw [← Nat.pow_add] at this
    exact Nat.lt_of_lt_of_le this (Nat.pow_le_pow_right (by decide) (by decide))
  · rw [SS.div_mk hy]
    exact h
abbrev s_is_below : Stmt := topS 8
theorem sc_is_below : FnScope ["one", "other"] ["one", "other"] (defScope s_is_below) := SB.sc_by (by decide +kernel)
theorem len_is_below {T : TX K mg} : ∀ vs H Q E, sp_is_below T vs H Q E → vs.length = (["one", "other"] : List Str).length := by
  rintro _ H Q E ⟨_, _, _, _, rfl, _⟩
  rfl
theorem ok_is_below (T : TX K mg)   {f : Addr} {fd : FuncData} (F : Fun K "is_below" "is_below" s_is_below f fd) : FnOk P w K mg base CX0 1 f fd ["one", "other"] (sp_is_below T) := by
  refine F.ok sc_is_below len_is_below (fun cdv A outer s H vs Q E hr h => ⟨_, (pss_one (ps_ret (pe_cmpR op_lt (pe_op op_mulW (pe_ix (SB.kIxT (K := K) rfl) (pv 0) pe_int (fun _ _ => rfl)) (pe_ix (SB.kIxT (K := K) rfl) (pv 1) pe_int (fun _ _ => rfl))) (pe_op op_mulW (pe_ix (SB.kIxT (K := K) rfl) (pv 1) pe_int (fun _ _ => rfl)) (pe_ix (SB.kIxT (K := K) rfl) (pv 0) pe_int (fun _ _ => rfl))) (nomark _)))), ?_⟩)
  obtain ⟨v, w', x, y, rfl, ⟨a, rfl, ha⟩, ⟨b, rfl, hb⟩, sx, sy, q⟩ := h
  have c1 : CMulW x.num (y.den : Nat) := wide_mul sx.1 (by rw [Int.natAbs_natCast]; exact sy.2) (by decide) (by decide) (by decide)
  have c2 : CMulW y.num (x.den : Nat) := wide_mul sy.1 (by rw [Int.natAbs_natCast]; exact sx.2) (by decide) (by decide) (by decide)
  refine ⟨_, rfl, a, _, 0, _, rfl, rfl, ha, rfl, _, rfl, b, _, 1, _, rfl, rfl, hb, rfl, _, _, rfl, rfl, c1, _, rfl, b, _, 0, _, rfl, rfl, hb, rfl, _, rfl, a, _, 1, _, rfl, rfl, ha, rfl, _, _, rfl, rfl, c2, _, _, rfl, rfl, ?_⟩
  have e : decide (x.num * ((y.den : Nat) : Int) < y.num * ((x.den : Nat) : Int)) = decide (x < y) := by
    rw [decide_eq_decide]
    exact (Rat.lt_iff x y).symm
  show Q (V.bl (decide (x.num * ((y.den : Nat) : Int) < y.num * ((x.den : Nat) : Int)))) _
  rw [e]
  exact q

end
end SP

/-! ## W2 -/
set_option maxHeartbeats 4000000
namespace SP
open PySem PySem.Spec PyProof.Rows L2 SB
open SS (VC VG R Sz RateOk treeW ratesOf leadsTo)
open R7244e.Spec (reachable recurrentStates hasOneClass canMeet distribution wordProb endState coverage separation unstopped stopProbs survival entry target)
section
variable {P : Program} {w : World} {base : Heap}
variable {K : PySem.W.Frag} {mg : Str → Option Value}

/-- all (told) so far -/
def toldTo (told : List Nat) (xs : List Nat) (i : Nat) : List Nat := (xs.take i).foldl SS.addNew told
abbrev s_reached : Stmt := topS 9
theorem sc_reached : FnScope ["chain", "start", "told", "place", "own"] ["chain", "start"] (defScope s_reached) := SB.sc_by (by decide +kernel)
theorem len_reached {T : TX K mg} : ∀ vs H Q E, sp_reached T vs H Q E → vs.length = (["chain", "start"] : List Str).length := by
  rintro _ H Q E ⟨_, _, _, rfl, _⟩
  rfl
theorem ok_reached (T : TX K mg)   {f : Addr} {fd : FuncData} (F : Fun K "reached" "reached" s_reached f fd) : FnOk P w K mg base CX0 1 f fd ["chain", "start"] (sp_reached T) := by
  refine F.ok sc_reached len_reached (fun cdv A outer s H vs Q E hr h => ⟨_, (pss_cons (ps_set (i := 2) sc_reached.nd rfl (by first | exact Or.inl rfl | exact Or.inr rfl) (pe_lst (pa_cons (pv 1) pa_nil))) (pss_cons (ps_set (i := 3) sc_reached.nd rfl (by first | exact Or.inl rfl | exact Or.inr rfl) pe_int) (pss_cons (ps_while (by first | exact PassesOwn.never | exact passes_of rfl) (pt_cmpR op_lt (pv 3) (pe_callB (SB.kLen (K := K) rfl) (by rfl) T.b_len PySem.boot_len (pa_cons (pv 2) pa_nil)) (nomark _)) (pss_cons (ps_for (by first | exact PassesOwn.never | exact passes_of rfl) rfl (SB.kPiL (K := K) rfl (pe_ix (SB.kIxL (K := K) rfl) (pv 0) (pe_ix (SB.kIxL (K := K) rfl) (pv 2) (pv 3) (fun _ _ => rfl)) (fun _ _ => rfl))) (pg_name (i := 4) sc_reached.nd rfl (by first | exact Or.inl rfl | exact Or.inr rfl)) (pss_one (ps_if (pt_cmpR (SB.kNotIn (K := K) rfl) (pv 4) (pv 2) (by with_unfolding_all rfl)) (pss_one (ps_expr (pe_bm PySem.F.plainAttrs_list PySem.F.slot_list_append PySem.F.type_list_append mt_append (pv 2) (pa_cons (pv 4) pa_nil)))) pss_nil))) (pss_one (ps_aug (i := 3) sc_reached.nd rfl (by first | exact Or.inl rfl | exact Or.inr rfl) pe_int ip_add)))) (pss_one (ps_ret (pv 2)))))), ?_⟩)
  obtain ⟨c, t, st, rfl, vc, hs, hc, q⟩ := h
  obtain ⟨ca, cvs, rfl, _, hcl, hlen, hget⟩ := hc.get vc
  refine ⟨_, rfl, (by show 1 ≤ sizeLine; decide), fun p hp => ?_⟩
  refine while_by (fun σ H' => ∃ (told : List Nat) (place : Nat) (o : Option V), σ = [some (.ref ca), some (intT st), some (.ref p), some (intT place), o] ∧ Same H H' ∧ H' p = some (.lst (told.map intT)) ∧ SS.ReachInv t st told place)
    (fun σ _ => match σ[3]? with | some (some (V.int i)) => (3 - i).toNat | _ => 0) ⟨[st], 0, none, rfl, same_upd hp, upd_same, SS.ReachInv.start vc hs⟩ ?_ ?_
  · rintro σ H1 ⟨told, place, o, rfl, s1, h1, inv⟩
    have hle := inv.le
    refine ⟨_, rfl, _, rfl, p, _, rfl, .inl (SqL.of h1), _, _, rfl, rfl, _, rfl, ?_⟩
    rw [List.length_map]
    refine ite2 (fun c1 => ?_) (fun c1 => ?_)
    · have c1 : place < told.length := by
        have := of_decide_eq_true c1
        omega
      obtain ⟨x, hx⟩ : ∃ x, told[place]? = some x := ⟨told[place], List.getElem?_eq_getElem c1⟩
      have okx := inv.ok x (List.mem_of_getElem? hx)
      obtain ⟨b, hb1, _, hb⟩ := hget x okx.1
      have pne : ∀ a xs, SqL K H a xs → a ≠ p ∨ True := fun _ _ _ => .inr trivial
      refine ⟨_, rfl, _, rfl, _, rfl, p, _, place, _, rfl, rfl, SqL.of h1, atI_nat (map_get hx), ca, _, _, _, rfl, rfl, Same.seq s1 hcl, atI_nat hb1, b, rfl, ⟨_, Same.seq s1 hb⟩, ?_⟩
      refine for_list (K := K) (a := b) (xs := [intT (target t x 0), intT (target t x 1)]) (fun i σ H2 => ∃ o : Option V, σ = [some (.ref ca), some (intT st), some (.ref p), some (intT place), o] ∧ Same H H2 ∧ H2 p = some (.lst ((toldTo told [target t x 0, target t x 1] i).map intT)))
        ⟨o, rfl, s1, h1⟩ (fun i σ H2 _ ⟨_, _, s2, _⟩ => Same.seq s2 hb) ?_ ?_
      · rintro i y σ H2 hi ⟨o2, rfl, s2, h2⟩
        obtain ⟨z, hz, rfl⟩ : ∃ z, [target t x 0, target t x 1][i]? = some z ∧ y = intT z := get_map (f := intT) (l := [target t x 0, target t x 1]) hi
        have step : toldTo told [target t x 0, target t x 1] (i + 1) = SS.addNew (toldTo told [target t x 0, target t x 1] i) z := by
          unfold toldTo
          rw [List.take_add_one, hz, List.foldl_append]
          rfl
        have len : (toldTo told [target t x 0, target t x 1] i).length ≤ 10 := by
          have a1 : ∀ l (z : Nat), (SS.addNew l z).length ≤ l.length + 1 := fun l z => by
            unfold SS.addNew
            split <;> simp
          have a2 := a1 told (target t x 0)
          have a3 := a1 (SS.addNew told (target t x 0)) (target t x 1)
          have tl : told.length ≤ 3 := Nat.le_trans hle vc.le
          match i with
          | 0 => show told.length ≤ 10; omega
          | 1 => show (SS.addNew told (target t x 0)).length ≤ 10; omega
          | i + 2 => simp at hi
        refine ⟨_, rfl, _, rfl, p, _, rfl, .inl (SqL.of h2), rfl, flat_int _, _, rfl, ?_⟩
        rw [inV_int]
        refine ite2 (fun c2 => ?_) (fun c2 => ?_)
        · have c2 : (toldTo told [target t x 0, target t x 1] i).contains z = false := by simpa using c2
          refine ⟨_, rfl, .inl ⟨rfl, _, SqL.of h2⟩, _, rfl, p, _, _, rfl, rfl, h2, ?_, some (intT z), rfl, same_upd2 s2 hp, ?_⟩
          · rw [List.length_map]
            exact lt_line (by omega)
          · rw [upd_same, step]
            unfold SS.addNew
            rw [c2]
            simp
        · have c2 : (toldTo told [target t x 0, target t x 1] i).contains z = true := by simpa using c2
          refine ⟨some (intT z), rfl, s2, ?_⟩
          rw [h2, step]
          unfold SS.addNew
          rw [c2]
          rfl
      · rintro σ H2 ⟨o2, rfl, s2, h2⟩
        refine ⟨_, rfl, _, _, rfl, rfl, ⟨SS.reachStep t told x, place + 1, o2, rfl, s2, h2, inv.step vc hs hx⟩, ?_⟩
        have tl : told.length ≤ 3 := Nat.le_trans hle vc.le
        show (3 - (((place : Nat) : Int) + 1)).toNat < (3 - ((place : Nat) : Int)).toNat
        omega
    · have c1 : told.length ≤ place := by
        rcases Nat.lt_or_ge place told.length with z | z
        · exact absurd (decide_eq_true (by omega)) c1
        · exact z
      exact ⟨_, rfl, q H1 p told s1 h1 (inv.fin c1) (Nat.le_trans hle vc.le)⟩
  · exact fun σ H Q Q' m ⟨v, e1, w, e2, p, ys, e3, l, i, j, e4, e5, k, e6, q⟩ => ⟨v, e1, w, e2, p, ys, e3, l, i, j, e4, e5, k, e6, m _ _ q⟩
abbrev s_leads_to : Stmt := topS 14
theorem sc_leads_to : FnScope ["targets", "state", "root", "turn"] ["targets", "state", "root"] (defScope s_leads_to) := SB.sc_by (by decide +kernel)
theorem len_leads_to {T : TX K mg} : ∀ vs H Q E, sp_leads_to T vs H Q E → vs.length = (["targets", "state", "root"] : List Str).length := by
  rintro _ H Q E ⟨_, _, _, _, rfl, _⟩
  rfl
theorem ok_leads_to (T : TX K mg)   {f : Addr} {fd : FuncData} (F : Fun K "leads_to" "leads_to" s_leads_to f fd) : FnOk P w K mg base CX0 1 f fd ["targets", "state", "root"] (sp_leads_to T) := by
  refine F.ok sc_leads_to len_leads_to (fun cdv A outer s H vs Q E hr h => ⟨_, (pss_cons (ps_for (by first | exact PassesOwn.never | exact passes_of rfl) rfl (pi_range1 (by rfl) T.b_range (pa_cons (pe_callB (SB.kLen (K := K) rfl) (by rfl) T.b_len PySem.boot_len (pa_cons (pv 0) pa_nil)) pa_nil)) (pg_name (i := 3) sc_leads_to.nd rfl (by first | exact Or.inl rfl | exact Or.inr rfl)) (pss_cons (ps_if (pt_cmpR op_eq (pv 1) (pv 2) (nomark _)) (pss_one (ps_ret pe_bl)) pss_nil) (pss_one (ps_set (i := 1) sc_leads_to.nd rfl (by first | exact Or.inl rfl | exact Or.inr rfl) (pe_ix (SB.kIxL (K := K) rfl) (pv 0) (pv 1) (fun _ _ => rfl)))))) (pss_one (ps_ret (pe_cmpR op_eq (pv 1) (pv 2) (nomark _))))), ?_⟩)
  obtain ⟨a, ts, st, root, rfl, ha, hl, hts, hst, q⟩ := h
  refine ⟨_, rfl, a, _, rfl, .inl ha, _, rfl, ?_, ?_, ?_⟩
  · rw [List.length_map]; omega
  · rw [List.length_map]; omega
  have el : (((ts.map intT).length : Nat) : Int).toNat = ts.length := by simp
  rw [el]
  refine for_range (lo := 0) (n := ts.length) (fun i σ H' => H' = H ∧ ∃ (s' : Nat) (o : Option V), σ = [some (.ref a), some (intT s'), some (intT root), o] ∧ s' < ts.length ∧ leadsTo ts st root = SS.leadGo ts root (ts.length - i) s')
    ⟨rfl, st, none, rfl, hst, rfl⟩ ?_ ?_
  · rintro i σ _ hi ⟨rfl, s', o, rfl, hs', e⟩
    refine ⟨_, rfl, _, rfl, rfl, _, rfl, ?_⟩
    have e2 : ts.length - i = (ts.length - (i + 1)) + 1 := by omega
    rw [e2] at e
    have e : leadsTo ts st root = (if s' = root then true else SS.leadGo ts root (ts.length - (i + 1)) (ts.getD s' 0)) := e
    refine ite2 (fun c => ?_) (fun c => ?_)
    · have c : s' = root := by
        have := of_decide_eq_true c
        injection this with this
        omega
      rw [if_pos c] at e
      rw [e] at q
      exact q
    · have c : ¬ s' = root := fun z => c (by rw [z]; exact decide_eq_true rfl)
      rw [if_neg c] at e
      have g : ts[s']? = some ts[s'] := List.getElem?_eq_getElem hs'
      refine ⟨_, rfl, _, rfl, a, _, s', _, rfl, rfl, ha, atI_nat (map_get g), rfl, ts[s'], _, rfl, hts _ (List.getElem_mem hs'), ?_⟩
      rw [e, SS.getD_at hs']
  · rintro σ _ ⟨rfl, s', o, rfl, hs', e⟩
    refine ⟨_, rfl, _, rfl, rfl, ?_⟩
    have e : leadsTo ts st root = (s' == root) := by
      rw [Nat.sub_self] at e
      exact e
    rw [e] at q
    have e3 : decide (intT s' = intT root) = (s' == root) := by
      rw [Bool.eq_iff_iff, decide_eq_true_eq, beq_iff_eq]
      constructor
      · intro z
        injection z with z
        omega
      · intro z
        rw [z]
    rw [e3]
    exact q

end
end SP

/-! ## W3 -/
set_option maxHeartbeats 4000000
namespace SP
open PySem PySem.Spec PyProof.Rows L2 SB
open SS (VC VG R Sz RateOk treeW ratesOf leadsTo)
open R7244e.Spec (reachable recurrentStates hasOneClass canMeet distribution wordProb endState coverage separation unstopped stopProbs survival entry target)
section
variable {P : Program} {w : World} {base : Heap}
variable {K : PySem.W.Frag} {mg : Str → Option Value}

theorem all_mem {l m : List Nat} {f : Nat → Bool} (h : ∀ x, x ∈ l ↔ x ∈ m) : l.all f = m.all f := by
  rw [Bool.eq_iff_iff, List.all_eq_true, List.all_eq_true]
  exact ⟨fun q x hx => q x ((h x).mpr hx), fun q x hx => q x ((h x).mp hx)⟩
theorem contains_R {told : List Nat} {t : Chain} {s : Nat} (h : ∀ x, x ∈ told ↔ R t s x) (x : Nat) : told.contains x = (reachable t s).contains x := by
  rw [Bool.eq_iff_iff, List.contains_iff_mem]
  exact h x
def recTo (t : Chain) (i : Nat) : List Nat := (List.range i).filter fun p => (reachable t p).all fun q => (reachable t q).contains p
theorem recTo_succ (t : Chain) (i : Nat) : recTo t (i + 1) = if ((reachable t i).all fun q => (reachable t q).contains i) = true then recTo t i ++ [i] else recTo t i := by
  unfold recTo
  rw [List.range_succ, List.filter_append]
  split
  · rename_i h
    simp only [List.filter_cons, h, List.filter_nil, if_true]
  · rename_i h
    have h : ((reachable t i).all fun q => (reachable t q).contains i) = false := by simpa using h
    simp only [List.filter_cons, h, List.filter_nil, Bool.false_eq_true, if_false, List.append_nil]
theorem map_take_succ {α β : Type} {f : α → β} {l : List α} {i : Nat} {x : α} (h : l[i]? = some x) : (l.take (i + 1)).map f = (l.take i).map f ++ [f x] := by
  rw [List.take_add_one, h, List.map_append]
  rfl
abbrev s_recurrent : Stmt := topS 10
theorem sc_recurrent : FnScope ["chain", "told", "state", "own"] ["chain"] (defScope s_recurrent) := SB.sc_by (by decide +kernel)
theorem len_recurrent {T : TX K mg} : ∀ vs H Q E, sp_recurrent T vs H Q E → vs.length = (["chain"] : List Str).length := by
  rintro _ H Q E ⟨_, _, rfl, _⟩
  rfl
theorem ok_recurrent (T : TX K mg) (c_reached : SB.Cal P w K mg base 1 "reached" (sp_reached T))  {f : Addr} {fd : FuncData} (F : Fun K "recurrent" "recurrent" s_recurrent f fd) : FnOk P w K mg base CX0 2 f fd ["chain"] (sp_recurrent T) := by
  refine F.ok sc_recurrent len_recurrent (fun cdv A outer s H vs Q E hr h => ⟨_, (pss_cons (ps_set (i := 1) sc_recurrent.nd rfl (by first | exact Or.inl rfl | exact Or.inr rfl) (pe_lst pa_nil)) (pss_cons (ps_for (by first | exact PassesOwn.never | exact passes_of rfl) rfl (pi_range1 (by rfl) T.b_range (pa_cons (pe_callB (SB.kLen (K := K) rfl) (by rfl) T.b_len PySem.boot_len (pa_cons (pv 0) pa_nil)) pa_nil)) (pg_name (i := 2) sc_recurrent.nd rfl (by first | exact Or.inl rfl | exact Or.inr rfl)) (pss_one (ps_if (pt_val (pe_callB (SB.kAll (K := K) rfl rfl) (by rfl) T.b_all (by decide +kernel) (pa_cons (pe_lc (own := [("own", 3)]) (g := (gName 3)) (tt := tYes) (by rfl) sc_recurrent.nd (SB.kPiL (K := K) rfl (SB.cal c_reached hr (by decide) rfl (pa_cons (pv 0) (pa_cons (pv 2) pa_nil)))) (blkOk_by (own := [("own", 3)]) (N := ["chain", "told", "state", "own"]) (sc := (defScope s_recurrent)) (by decide +kernel)) (fun _ _ _ _ _ => (pg_name (i := 3) sc_recurrent.nd rfl (by first | exact Or.inl rfl | exact Or.inr rfl))) (fun _ _ _ _ _ => pts_nil) (fun _ _ _ _ _ => (pe_cmpR (SB.kIn (K := K) rfl) (pv 2) (SB.cal c_reached hr (by decide) rfl (pa_cons (pv 0) (pa_cons (pv 3) pa_nil))) (by with_unfolding_all rfl)))) pa_nil))) (pss_one (ps_expr (pe_bm PySem.F.plainAttrs_list PySem.F.slot_list_append PySem.F.type_list_append mt_append (pv 1) (pa_cons (pv 2) pa_nil)))) pss_nil))) (pss_one (ps_ret (pv 1))))), ?_⟩)
  obtain ⟨c, t, rfl, vc, hc, q⟩ := h
  obtain ⟨ca, cvs, rfl, _, hcl, hlen, hget⟩ := hc.get vc
  have vle := vc.le
  refine ⟨(by show 0 ≤ sizeLine; decide), fun p hp => ⟨_, rfl, ca, _, rfl, .inl (Same.seq (same_upd hp) hcl), _, rfl, ?_, ?_, ?_⟩⟩
  · rw [hlen]; omega
  · rw [hlen]; omega
  have el : (((cvs.length : Nat) : Int)).toNat = t.length := by rw [hlen]; simp
  rw [el]
  refine for_range (lo := 0) (n := t.length) (fun i σ H' => ∃ o : Option V, σ = [some (.ref ca), some (.ref p), o, none] ∧ Same H H' ∧ H' p = some (.lst ((recTo t i).map intT)))
    ⟨none, rfl, same_upd hp, upd_same⟩ ?_ ?_
  · rintro i σ H1 hi ⟨o, rfl, s1, h1⟩
    have ei : (0 : Int) + (i : Nat) = ((i : Nat) : Int) := by omega
    rw [ei]
    refine ⟨_, rfl, _, rfl, .ref ca, t, i, rfl, vc, hi, hc.same s1, fun H2 p2 told2 s2 h2 mem2 len2 => ⟨p2, rfl, ⟨_, SqL.of h2⟩, fun D hD => ?_⟩⟩
    refine lc_list (K := K) (a := p2) (xs := told2.map intT) (fun j H3 => Same H2 H3 ∧ H3 D = some (.lst ((told2.take j).map fun o => V.bl ((reachable t o).contains i)))) ⟨same_upd hD, upd_same⟩ (fun j H3 _ ⟨s3, _⟩ => Same.seq s3 (SqL.of h2)) ?_ ?_
    · rintro j x H3 hx ⟨s3, h3⟩
      obtain ⟨z, hz, rfl⟩ := get_map hx
      have rz := (mem2 z).mp (List.mem_of_getElem? hz)
      have lz := (SS.R_step vc hi rz).1
      refine ⟨rfl, lcYes ⟨_, rfl, _, rfl, _, rfl, .ref ca, t, z, rfl, vc, lz, hc.same ((s1.trans s2).trans s3), fun H4 p4 told4 s4 h4 mem4 len4 => ⟨p4, _, rfl, .inl (SqL.of h4), rfl, flat_int _, ?_⟩⟩⟩
      refine ⟨_, s4 _ _ h3, ?_, same_upd2 (s3.trans s4) hD, ?_⟩
      · rw [List.length_map, List.length_take]
        exact lt_line (by omega)
      · rw [upd_same, map_take_succ hz]
        show some (HO.lst (_ ++ [V.bl (inV (intT i) (told4.map intT))])) = _
        rw [inV_int, contains_R mem4]
    · rintro H3 ⟨s3, h3⟩
      rw [List.length_map, List.take_length] at h3
      have eb : (told2.map fun o => V.bl ((reachable t o).contains i)) = (told2.map fun o => (reachable t o).contains i).map V.bl := by rw [List.map_map]; rfl
      rw [eb] at h3
      refine ⟨D, _, rfl, SqL.of h3, _, rfl, ?_⟩
      have ea : (told2.map fun o => (reachable t o).contains i).all id = (reachable t i).all fun q => (reachable t q).contains i := by
        rw [List.all_map]
        exact all_mem fun x => (mem2 x).trans SS.R_mem
      rw [ea]
      have sc := recTo_succ t i
      have s4 := (s1.trans s2).trans s3
      refine ite2 (fun c1 => ?_) (fun c1 => ?_)
      · rw [if_pos c1] at sc
        refine ⟨_, rfl, .inl ⟨rfl, _, SqL.of (s3 _ _ (s2 _ _ h1))⟩, _, rfl, p, _, _, rfl, rfl, s3 _ _ (s2 _ _ h1), ?_, some (intT i), rfl, same_upd2 s4 hp, ?_⟩
        · rw [List.length_map]
          have : (recTo t i).length ≤ i := by
            unfold recTo
            have := List.length_filter_le (fun p => (reachable t p).all fun q => (reachable t q).contains p) (List.range i)
            simpa using this
          exact lt_line (by omega)
        · rw [upd_same, sc, List.map_append]
          rfl
      · rw [if_neg c1] at sc
        refine ⟨some (intT i), rfl, s4, ?_⟩
        rw [sc]
        exact s3 _ _ (s2 _ _ h1)
  · rintro σ H1 ⟨o, rfl, s1, h1⟩
    exact ⟨_, rfl, q H1 p s1 h1⟩
abbrev s_has_single_class : Stmt := topS 11
theorem sc_has_single_class : FnScope ["chain", "own", "other"] ["chain"] (defScope s_has_single_class) := SB.sc_by (by decide +kernel)
theorem len_has_single_class {T : TX K mg} : ∀ vs H Q E, sp_has_single_class T vs H Q E → vs.length = (["chain"] : List Str).length := by
  rintro _ H Q E ⟨_, _, rfl, _⟩
  rfl
theorem ok_has_single_class (T : TX K mg) (c_reached : SB.Cal P w K mg base 1 "reached" (sp_reached T)) (c_recurrent : SB.Cal P w K mg base 2 "recurrent" (sp_recurrent T))  {f : Addr} {fd : FuncData} (F : Fun K "has_single_class" "has_single_class" s_has_single_class f fd) : FnOk P w K mg base CX0 3 f fd ["chain"] (sp_has_single_class T) := by
  refine F.ok sc_has_single_class len_has_single_class (fun cdv A outer s H vs Q E hr h => ⟨_, (pss_cons (ps_set (i := 1) sc_has_single_class.nd rfl (by first | exact Or.inl rfl | exact Or.inr rfl) (SB.cal c_recurrent hr (by decide) rfl (pa_cons (pv 0) pa_nil))) (pss_one (ps_ret (pe_callB (SB.kAll (K := K) rfl rfl) (by rfl) T.b_all (by decide +kernel) (pa_cons (pe_lc (own := [("other", 2)]) (g := (gName 2)) (tt := tYes) (by rfl) sc_has_single_class.nd (SB.kPiL (K := K) rfl (pv 1)) (blkOk_by (own := [("other", 2)]) (N := ["chain", "own", "other"]) (sc := (defScope s_has_single_class)) (by decide +kernel)) (fun _ _ _ _ _ => (pg_name (i := 2) sc_has_single_class.nd rfl (by first | exact Or.inl rfl | exact Or.inr rfl))) (fun _ _ _ _ _ => pts_nil) (fun _ _ _ _ _ => (pe_cmpR (SB.kIn (K := K) rfl) (pv 2) (SB.cal c_reached hr (by decide) rfl (pa_cons (pv 0) (pa_cons (pe_ix (SB.kIxL (K := K) rfl) (pv 1) pe_int (fun _ _ => rfl)) pa_nil))) (by with_unfolding_all rfl)))) pa_nil))))), ?_⟩)
  obtain ⟨c, t, rfl, vc, hc, q⟩ := h
  obtain ⟨ca, cvs, rfl, _, hcl, hlen, hget⟩ := hc.get vc
  refine ⟨_, rfl, .ref ca, t, rfl, vc, hc, fun H1 p s1 h1 => ⟨_, rfl, p, rfl, ⟨_, SqL.of h1⟩, fun D hD => ?_⟩⟩
  have r0 : ∀ o ∈ recurrentStates t, o < t.length := fun o ho => (SS.mem_rec.mp ho).1
  refine lc_list (K := K) (a := p) (xs := (recurrentStates t).map intT) (fun j H3 => Same H1 H3 ∧ H3 D = some (.lst (((recurrentStates t).take j).map fun o => V.bl ((reachable t ((recurrentStates t).getD 0 0)).contains o)))) ⟨same_upd hD, upd_same⟩ (fun j H3 _ ⟨s3, _⟩ => Same.seq s3 (SqL.of h1)) ?_ ?_
  · rintro j x H3 hx ⟨s3, h3⟩
    obtain ⟨z, hz, rfl⟩ := get_map hx
    have hlt : j < (recurrentStates t).length := (List.getElem?_eq_some_iff.mp hz).1
    have ne : 0 < (recurrentStates t).length := by omega
    have h0 : (recurrentStates t)[0]? = some ((recurrentStates t).getD 0 0) := by rw [SS.getD_at ne]; exact List.getElem?_eq_getElem ne
    have l0 := r0 _ (List.mem_of_getElem? h0)
    refine ⟨rfl, lcYes ⟨_, rfl, _, rfl, _, rfl, p, _, 0, _, rfl, rfl, Same.seq s3 (SqL.of h1), atI_nat (j := 0) (map_get h0), .ref ca, t, _, rfl, vc, l0, hc.same (s1.trans s3), fun H4 p4 told4 s4 h4 mem4 len4 => ⟨p4, _, rfl, .inl (SqL.of h4), rfl, flat_int _, ?_⟩⟩⟩
    refine ⟨_, s4 _ _ h3, ?_, same_upd2 (s3.trans s4) hD, ?_⟩
    · rw [List.length_map, List.length_take]
      have : (recurrentStates t).length ≤ t.length := by
        have := List.length_filter_le (R7244e.Spec.isRecurrent t) (List.range t.length)
        rw [List.length_range] at this
        exact this
      have := vc.le
      exact lt_line (by omega)
    · rw [upd_same, map_take_succ hz]
      show some (HO.lst (_ ++ [V.bl (inV (intT z) (told4.map intT))])) = _
      rw [inV_int, contains_R mem4]
  · rintro H3 ⟨s3, h3⟩
    rw [List.length_map, List.take_length] at h3
    have eb : ((recurrentStates t).map fun o => V.bl ((reachable t ((recurrentStates t).getD 0 0)).contains o)) = ((recurrentStates t).map fun o => (reachable t ((recurrentStates t).getD 0 0)).contains o).map V.bl := by rw [List.map_map]; rfl
    rw [eb] at h3
    refine ⟨D, _, rfl, SqL.of h3, ?_⟩
    have ea : ((recurrentStates t).map fun o => (reachable t ((recurrentStates t).getD 0 0)).contains o).all id = hasOneClass t := by
      rw [List.all_map]
      exact SS.one_class vc
    rw [ea]
    exact q H3 (s1.trans s3)
abbrev s_is_periodic : Stmt := topS 13
theorem sc_is_periodic : FnScope ["chain", "own", "other", "one"] ["chain"] (defScope s_is_periodic) := SB.sc_by (by decide +kernel)
theorem len_is_periodic {T : TX K mg} : ∀ vs H Q E, sp_is_periodic T vs H Q E → vs.length = (["chain"] : List Str).length := by
  rintro _ H Q E ⟨_, _, rfl, _⟩
  rfl
theorem ok_is_periodic (T : TX K mg) (c_can_meet : SB.Cal P w K mg base 1 "can_meet" (sp_can_meet T)) (c_recurrent : SB.Cal P w K mg base 2 "recurrent" (sp_recurrent T))  {f : Addr} {fd : FuncData} (F : Fun K "is_periodic" "is_periodic" s_is_periodic f fd) : FnOk P w K mg base CX0 3 f fd ["chain"] (sp_is_periodic T) := by
  refine F.ok sc_is_periodic len_is_periodic (fun cdv A outer s H vs Q E hr h => ⟨_, (pss_cons (ps_set (i := 1) sc_is_periodic.nd rfl (by first | exact Or.inl rfl | exact Or.inr rfl) (SB.cal c_recurrent hr (by decide) rfl (pa_cons (pv 0) pa_nil))) (pss_one (ps_ret (pe_not (pe_callB (SB.kAll (K := K) rfl rfl) (by rfl) T.b_all (by decide +kernel) (pa_cons (pe_lc (own := [("one", 3)]) (g := (gName 3)) (tt := tYes) (by rfl) sc_is_periodic.nd (SB.kPiL (K := K) rfl (pv 1)) (blkOk_by (own := [("one", 3)]) (N := ["chain", "own", "other", "one"]) (sc := (defScope s_is_periodic)) (by decide +kernel)) (fun _ _ _ _ _ => (pg_name (i := 3) sc_is_periodic.nd rfl (by first | exact Or.inl rfl | exact Or.inr rfl))) (fun _ _ _ _ _ => pts_nil) (fun _ _ _ _ _ => (pe_callB (SB.kAll (K := K) rfl rfl) (by rfl) T.b_all (by decide +kernel) (pa_cons (pe_lc (own := [("other", 2)]) (g := (gName 2)) (tt := tYes) (by rfl) sc_is_periodic.nd (SB.kPiL (K := K) rfl (pv 1)) (blkOk_by (own := [("other", 2)]) (N := ["chain", "own", "other", "one"]) (sc := (relS _ (defScope s_is_periodic))) (by decide +kernel)) (fun _ _ _ _ _ => (pg_name (i := 2) sc_is_periodic.nd rfl (by first | exact Or.inl rfl | exact Or.inr rfl))) (fun _ _ _ _ _ => pts_nil) (fun _ _ _ _ _ => (SB.cal c_can_meet hr (by decide) rfl (pa_cons (pv 0) (pa_cons (pv 3) (pa_cons (pv 2) pa_nil)))))) pa_nil)))) pa_nil)))))), ?_⟩)
  obtain ⟨c, t, rfl, vc, hc, q⟩ := h
  obtain ⟨ca, cvs, rfl, _, hcl, hlen, hget⟩ := hc.get vc
  have r0 : ∀ o ∈ recurrentStates t, o < t.length := fun o ho => (SS.mem_rec.mp ho).1
  have rl : (recurrentStates t).length ≤ 3 := by
    have := List.length_filter_le (R7244e.Spec.isRecurrent t) (List.range t.length)
    rw [List.length_range] at this
    have e : (recurrentStates t).length ≤ t.length := this
    have := vc.le
    omega
  refine ⟨_, rfl, .ref ca, t, rfl, vc, hc, fun H1 p s1 h1 => ⟨_, rfl, p, rfl, ⟨_, SqL.of h1⟩, fun D hD => ?_⟩⟩
  refine lc_list (K := K) (a := p) (xs := (recurrentStates t).map intT) (fun j H3 => Same H1 H3 ∧ H3 D = some (.lst (((recurrentStates t).take j).map fun o => V.bl ((recurrentStates t).all fun r => canMeet t o r)))) ⟨same_upd hD, upd_same⟩ (fun j H3 _ ⟨s3, _⟩ => Same.seq s3 (SqL.of h1)) ?_ ?_
  · rintro j x H3 hx ⟨s3, h3⟩
    obtain ⟨z, hz, rfl⟩ := get_map hx
    have lz := r0 z (List.mem_of_getElem? hz)
    refine ⟨rfl, lcYes ⟨_, rfl, p, rfl, ⟨_, Same.seq s3 (SqL.of h1)⟩, fun D2 hD2 => ?_⟩⟩
    refine lc_list (K := K) (a := p) (xs := (recurrentStates t).map intT) (fun k H4 => Same H3 H4 ∧ H4 D2 = some (.lst (((recurrentStates t).take k).map fun r => V.bl (canMeet t z r)))) ⟨same_upd hD2, upd_same⟩ (fun k H4 _ ⟨s4, _⟩ => Same.seq s4 (Same.seq s3 (SqL.of h1))) ?_ ?_
    · rintro k x H4 hx ⟨s4, h4⟩
      obtain ⟨y, hy, rfl⟩ := get_map hx
      have ly := r0 y (List.mem_of_getElem? hy)
      refine ⟨rfl, lcYes ⟨_, rfl, _, rfl, _, rfl, .ref ca, t, z, y, rfl, vc, lz, ly, hc.same ((s1.trans s3).trans s4), fun H5 s5 => ⟨_, s5 _ _ h4, ?_, same_upd2 (s4.trans s5) hD2, ?_⟩⟩⟩
      · rw [List.length_map, List.length_take]
        exact lt_line (by omega)
      · rw [upd_same, map_take_succ hy]
    · rintro H4 ⟨s4, h4⟩
      rw [List.length_map, List.take_length] at h4
      have eb : ((recurrentStates t).map fun r => V.bl (canMeet t z r)) = ((recurrentStates t).map fun r => canMeet t z r).map V.bl := by rw [List.map_map]; rfl
      rw [eb] at h4
      refine ⟨D2, _, rfl, SqL.of h4, _, s4 _ _ h3, ?_, same_upd2 (s3.trans s4) hD, ?_⟩
      · rw [List.length_map, List.length_take]
        exact lt_line (by omega)
      · rw [upd_same, map_take_succ hz, List.all_map]
        rfl
  · rintro H3 ⟨s3, h3⟩
    rw [List.length_map, List.take_length] at h3
    have eb : ((recurrentStates t).map fun o => V.bl ((recurrentStates t).all fun r => canMeet t o r)) = ((recurrentStates t).map fun o => (recurrentStates t).all fun r => canMeet t o r).map V.bl := by rw [List.map_map]; rfl
    rw [eb] at h3
    refine ⟨D, _, rfl, SqL.of h3, _, rfl, ?_⟩
    rw [List.all_map]
    exact q H3 (s1.trans s3)

end
end SP

/-! ## W4 -/
set_option maxHeartbeats 4000000
namespace SP
open PySem PySem.Spec PyProof.Rows L2 SB
open SS (VC VG R Sz RateOk treeW ratesOf leadsTo)
open R7244e.Spec (reachable recurrentStates hasOneClass canMeet distribution wordProb endState coverage separation unstopped stopProbs survival entry target)
section
variable {P : Program} {w : World} {base : Heap}
variable {K : PySem.W.Frag} {mg : Str → Option Value}

def mkP (e : SS.Pr) : List Key × V := ([.inl (e.1 : Nat), .inl (e.2 : Nat)], .bl true)
def TpAt (H : Hp) (v : V) (e : SS.Pr) : Prop := ∃ q, v = .ref q ∧ H q = some (.tup [intT e.1, intT e.2])
theorem TpAt.same {H H' : Hp} {v : V} {e : SS.Pr} (s : Same H H') (h : TpAt H v e) : TpAt H' v e := let ⟨q, a, b⟩ := h; ⟨q, a, s _ _ b⟩
theorem TpAt.upd {H : Hp} {v : V} {e : SS.Pr} {p : Addr} {o u : HO} (hp : H p = some o) (n : ∀ xs, o ≠ .tup xs) (h : TpAt H v e) : TpAt (upd H p u) v e := by
  obtain ⟨q, a, b⟩ := h
  exact ⟨q, a, by rw [upd_ne (ne_of b hp (Ne.symm (n _)))]; exact b⟩
theorem key_inj {e f : SS.Pr} : (mkP e).1 = (mkP f).1 ↔ e = f := by
  constructor
  · intro h
    unfold mkP at h
    simp only [List.cons.injEq, Sum.inl.injEq, and_true] at h
    exact Prod.ext (by omega) (by omega)
  · intro h
    rw [h]
theorem val_mk (seen : List SS.Pr) (e : SS.Pr) : (valV (seen.map mkP) (mkP e).1).isSome = seen.contains e := by
  rw [← valV_any, List.any_map, Bool.eq_iff_iff, List.any_eq_true, List.contains_iff_mem]
  constructor
  · rintro ⟨x, hx, h⟩
    have := key_inj.mp (of_decide_eq_true h)
    exact this ▸ hx
  · intro h
    exact ⟨e, h, decide_eq_true rfl⟩
theorem put_mk {seen : List SS.Pr} {e : SS.Pr} (h : seen.contains e = false) : putK (seen.map mkP) (mkP e).1 (.bl true) = (seen ++ [e]).map mkP := by
  unfold putK
  rw [valV_any, val_mk, h, if_neg Bool.false_ne_true, List.map_append]
  rfl
/-- the search behind so many of the four -/
def fourTo (t : Chain) (e : SS.Pr) (sd : List SS.Pr × List SS.Pr) (k : Nat) : List SS.Pr × List SS.Pr := ((SS.four t e).take k).foldl SS.meetAdd sd
structure MeetSt (K : PySem.W.Frag) (H0 H : Hp) (sa p : Addr) (sd : List SS.Pr × List SS.Pr) : Prop where
  same : Same H0 H
  seen : H sa = some (.dT (sd.1.map mkP))
  due : ∃ dv, H p = some (.lst dv) ∧ Paired (TpAt H) dv sd.2
abbrev s_can_meet : Stmt := topS 12
theorem sc_can_meet : FnScope ["chain", "one", "other", "seen", "due", "here", "there", "x", "y"] ["chain", "one", "other"] (defScope s_can_meet) := SB.sc_by (by decide +kernel)
theorem len_can_meet {T : TX K mg} : ∀ vs H Q E, sp_can_meet T vs H Q E → vs.length = (["chain", "one", "other"] : List Str).length := by
  rintro _ H Q E ⟨_, _, _, _, rfl, _⟩
  rfl
theorem ok_can_meet (T : TX K mg)   {f : Addr} {fd : FuncData} (F : Fun K "can_meet" "can_meet" s_can_meet f fd) : FnOk P w K mg base CX0 1 f fd ["chain", "one", "other"] (sp_can_meet T) := by
  refine F.ok sc_can_meet len_can_meet (fun cdv A outer s H vs Q E hr h => ⟨_, (pss_cons (ps_set (i := 3) sc_can_meet.nd rfl (by first | exact Or.inl rfl | exact Or.inr rfl) (pe_disp1T hr.units0 (pe_tup (pa_cons (pv 1) (pa_cons (pv 2) pa_nil))) pe_bl)) (pss_cons (ps_set (i := 4) sc_can_meet.nd rfl (by first | exact Or.inl rfl | exact Or.inr rfl) (pe_lst (pa_cons (pe_tup (pa_cons (pv 1) (pa_cons (pv 2) pa_nil))) pa_nil))) (pss_cons (ps_while (by first | exact PassesOwn.never | exact passes_of rfl) (pt_truth (pv 4) (by intro _; rfl)) (pss_cons (ps_asg (pe_bm0 PySem.F.plainAttrs_list PySem.F.slot_list_pop PySem.F.type_list_pop mt_pop (pv 4)) (pg_tup (by rfl) (pgs_cons (pg_name (i := 5) sc_can_meet.nd rfl (by first | exact Or.inl rfl | exact Or.inr rfl)) (pgs_cons (pg_name (i := 6) sc_can_meet.nd rfl (by first | exact Or.inl rfl | exact Or.inr rfl)) pgs_nil)))) (pss_cons (ps_if (pt_cmpR op_eq (pv 5) (pv 6) (nomark _)) (pss_one (ps_ret pe_bl)) pss_nil) (pss_one (ps_for (by first | exact PassesOwn.never | exact passes_of rfl) rfl (SB.kPiL (K := K) rfl (pe_ix (SB.kIxL (K := K) rfl) (pv 0) (pv 5) (fun _ _ => rfl))) (pg_name (i := 7) sc_can_meet.nd rfl (by first | exact Or.inl rfl | exact Or.inr rfl)) (pss_one (ps_for (by first | exact PassesOwn.never | exact passes_of rfl) rfl (SB.kPiL (K := K) rfl (pe_ix (SB.kIxL (K := K) rfl) (pv 0) (pv 6) (fun _ _ => rfl))) (pg_name (i := 8) sc_can_meet.nd rfl (by first | exact Or.inl rfl | exact Or.inr rfl)) (pss_one (ps_if (pt_cmp (pc_dnotin (hu_of hr) (pe_tup (pa_cons (pv 7) (pa_cons (pv 8) pa_nil))) (pv 3)) rfl) (pss_cons (ps_dput (hu_of hr) (pv 3) (pe_tup (pa_cons (pv 7) (pa_cons (pv 8) pa_nil))) pe_bl rfl) (pss_one (ps_expr (pe_bm PySem.F.plainAttrs_list PySem.F.slot_list_append PySem.F.type_list_append mt_append (pv 4) (pa_cons (pe_tup (pa_cons (pv 7) (pa_cons (pv 8) pa_nil))) pa_nil))))) pss_nil))))))))) (pss_one (ps_ret pe_bl))))), ?_⟩)
  obtain ⟨c, t, p0, q0, rfl, vc, hp0, hq0, hc, q⟩ := h
  obtain ⟨ca, cvs, rfl, _, hcl, hlen, hget⟩ := hc.get vc
  have l2 : (2 : Nat) ≤ sizeLine := by decide
  refine fun sa hsa => ⟨_, rfl, _, rfl, l2, fun t1 ht1 => ⟨t1, [.inl (p0 : Nat), .inl (q0 : Nat)], rfl, upd_same, ?_, ?_⟩⟩
  · exact upd_keep (o := .dT []) upd_same ht1
  refine ⟨_, rfl, _, rfl, l2, fun t2 ht2 => ⟨(by show 1 ≤ sizeLine; decide), fun p hp => ?_⟩⟩
  have ne1 : t1 ≠ sa := fun z => by rw [z, upd_same] at ht1; cases ht1
  have hst : MeetSt K H (upd (upd (upd (upd (upd H sa (.dT [])) t1 (.tup [intT p0, intT q0])) sa (.dT [([Sum.inl ((p0 : Nat) : Int), Sum.inl ((q0 : Nat) : Int)], .bl true)])) t2 (.tup [intT p0, intT q0])) p (.lst [.ref t2])) sa p ([(p0, q0)], [(p0, q0)]) := by
    have s1 : Same H (upd H sa (.dT [])) := same_upd hsa
    have s2 := same_upd2 (o := .tup [intT p0, intT q0]) s1 (s1.free ht1)
    have s3 := same_upd2 (o := .dT [([Sum.inl ((p0 : Nat) : Int), Sum.inl ((q0 : Nat) : Int)], .bl true)]) s2 hsa
    have s4 := same_upd2 (o := .tup [intT p0, intT q0]) s3 (s3.free ht2)
    have s5 := same_upd2 (o := .lst [.ref t2]) s4 (s4.free hp)
    refine ⟨s5, ?_, [.ref t2], upd_same, .cons ⟨t2, rfl, ?_⟩ .nil⟩
    · exact upd_keep (upd_keep upd_same ht2) hp
    · exact upd_keep upd_same hp
  have hsan := hsa
  have hpn : H p = none := by
    have s1 : Same H (upd H sa (.dT [])) := same_upd hsa
    have s2 := same_upd2 (o := .tup [intT p0, intT q0]) s1 (s1.free ht1)
    have s3 := same_upd2 (o := .dT [([Sum.inl ((p0 : Nat) : Int), Sum.inl ((q0 : Nat) : Int)], .bl true)]) s2 hsa
    have s4 := same_upd2 (o := .tup [intT p0, intT q0]) s3 (s3.free ht2)
    exact s4.free hp
  clear ne1
  dsimp only [gName]
  refine seqI ?_
  refine while_by (fun σ H' => ∃ (seen due : List SS.Pr) (o5 o6 o7 o8 : Option V), σ = [some (.ref ca), some (intT p0), some (intT q0), some (.ref sa), some (.ref p), o5, o6, o7, o8] ∧ MeetSt K H H' sa p (seen, due) ∧ SS.MeetInv t p0 q0 seen due ∧ H' sa = some (.dT (seen.map mkP)) ∧ ∃ dv, H' p = some (.lst dv) ∧ dv.length = due.length)
    (fun σ H' => (match H' sa with | some (.dT k) => 9 - k.length | _ => 0) + (match H' p with | some (.lst d) => d.length | _ => 0))
    ?_ ?_ ?_
  · exact ⟨[(p0, q0)], [(p0, q0)], none, none, none, none, rfl, hst, SS.MeetInv.start vc hp0 hq0, hst.seen, by obtain ⟨dv, h1, h2⟩ := hst.due; exact ⟨dv, h1, Paired.length h2⟩⟩
  · rintro σ H2 ⟨seen, due, o5, o6, o7, o8, rfl, st, inv, hse, dv, hdv, dl⟩
    obtain ⟨dv', hdv', pd⟩ := st.due
    rw [hdv] at hdv'
    cases hdv'
    refine ⟨_, rfl, (!dv.isEmpty), .inl ⟨dv, SqL.of hdv, rfl⟩, ?_⟩
    cases hd : dv.isEmpty with
    | true =>
      have : dv = [] := List.isEmpty_iff.mp hd
      subst this
      cases pd
      have z := q H2 st.same
      rw [inv.no] at z
      exact iteF z
    | false =>
      have ne : due ≠ [] := fun z => by
        subst z
        cases pd
        cases hd
      have hlt : due.length - 1 < due.length := by
        have := List.length_pos_iff.mpr ne
        omega
      obtain ⟨e, he⟩ : ∃ e, due.getLast? = some e := ⟨due.getLast ne, List.getLast?_eq_some_getLast ne⟩
      have he' : due[due.length - 1]? = some e := by rw [← List.getLast?_eq_getElem?]; exact he
      obtain ⟨v, hv, qt, rfl, hqt⟩ := Paired.at' pd he'
      have em : e ∈ due := List.mem_of_getElem? he'
      have ein := SS.mem_pairsN.mp (inv.ok e (inv.sub e em))
      obtain ⟨b1, hb1, _, hq1⟩ := hget e.1 ein.1
      obtain ⟨b2, hb2, _, hq2⟩ := hget e.2 ein.2
      have pne : qt ≠ p := ne_of hqt hdv (fun z => nomatch z)
      have sne : sa ≠ p := ne_of hse hdv (fun z => nomatch z)
      have pdl : Paired (TpAt H2) dv.dropLast due.dropLast := by
        have key : ∀ {l : List V} {m : List SS.Pr}, Paired (TpAt H2) l m → Paired (TpAt H2) l.dropLast m.dropLast := by
          intro l m h
          induction h with
          | nil => exact .nil
          | cons h t ih =>
            cases t with
            | nil => exact .nil
            | cons h2 t2 => exact .cons h ih
        exact key pd
      refine iteT ⟨_, rfl, .inl ⟨rfl, _, SqL.of hdv⟩, p, dv, .ref qt, rfl, rfl, hdv, by rw [dl]; exact hv, qt, _, rfl, SqT.of (by rw [upd_ne pne]; exact hqt), rfl, _, _, rfl, _, _, rfl, rfl, _, rfl, _, rfl, rfl, _, rfl, ?_⟩
      refine ite2 (fun c1 => ?_) (fun c1 => ?_)
      · have c1 := of_decide_eq_true c1
        injection c1 with c1
        have z := q (upd H2 p (.lst dv.dropLast)) (same_upd2 st.same hpn)
        rw [inv.yes em (by omega)] at z
        exact z
      · have c1 : e.1 ≠ e.2 := fun z => c1 (decide_eq_true (by rw [z]))
        have st0 : MeetSt K H (upd H2 p (.lst dv.dropLast)) sa p (fourTo t e (seen, due.dropLast) 0) := by
          refine ⟨same_upd2 st.same hpn, ?_, dv.dropLast, upd_same, ?_⟩
          · rw [upd_ne sne]
            exact hse
          · exact Paired.imp (fun _ _ h => h.upd hdv (fun _ z => nomatch z)) pdl
        have inv' := inv.step vc hp0 hq0 he c1
        refine ⟨_, rfl, _, rfl, ca, _, e.1, _, rfl, rfl, Same.seq st0.same hcl, atI_nat hb1, b1, rfl, ⟨_, Same.seq st0.same hq1⟩, ?_⟩
        refine for_list (K := K) (a := b1) (xs := [intT (target t e.1 0), intT (target t e.1 1)]) (fun i σ H3 => ∃ o7 o8 : Option V, σ = [some (.ref ca), some (intT p0), some (intT q0), some (.ref sa), some (.ref p), some (intT e.1), some (intT e.2), o7, o8] ∧ MeetSt K H H3 sa p (fourTo t e (seen, due.dropLast) (2 * i)))
          ⟨o7, o8, rfl, st0⟩ (fun i σ H3 _ ⟨_, _, _, s3⟩ => Same.seq s3.same hq1) ?_ ?_
        · rintro i x σ H3 hi ⟨o7, o8, rfl, st3⟩
          obtain ⟨x', hx', rfl⟩ := get_map (f := intT) (l := [target t e.1 0, target t e.1 1]) hi
          refine ⟨_, rfl, _, rfl, ca, _, e.2, _, rfl, rfl, Same.seq st3.same hcl, atI_nat hb2, b2, rfl, ⟨_, Same.seq st3.same hq2⟩, ?_⟩
          refine for_list (K := K) (a := b2) (xs := [intT (target t e.2 0), intT (target t e.2 1)]) (fun j σ H4 => ∃ o8 : Option V, σ = [some (.ref ca), some (intT p0), some (intT q0), some (.ref sa), some (.ref p), some (intT e.1), some (intT e.2), some (intT x'), o8] ∧ MeetSt K H H4 sa p (fourTo t e (seen, due.dropLast) (2 * i + j)))
            ⟨o8, rfl, st3⟩ (fun j σ H4 _ ⟨_, _, s4⟩ => Same.seq s4.same hq2) ?_ ?_
          · rintro j y σ H4 hj ⟨o8, rfl, st4⟩
            obtain ⟨y', hy', rfl⟩ := get_map (f := intT) (l := [target t e.2 0, target t e.2 1]) hj
            have hf : (SS.four t e)[2 * i + j]? = some (x', y') := by
              match i, j with
              | 0, 0 => simp at hx' hy'; subst hx' hy'; rfl
              | 0, 1 => simp at hx' hy'; subst hx' hy'; rfl
              | 1, 0 => simp at hx' hy'; subst hx' hy'; rfl
              | 1, 1 => simp at hx' hy'; subst hx' hy'; rfl
              | i + 2, _ => simp at hx'
              | _, j + 2 => simp at hy'
            have step : fourTo t e (seen, due.dropLast) (2 * i + (j + 1)) = SS.meetAdd (fourTo t e (seen, due.dropLast) (2 * i + j)) (x', y') := by
              unfold fourTo
              rw [show 2 * i + (j + 1) = (2 * i + j) + 1 by omega, List.take_add_one, hf, List.foldl_append]
              rfl
            have lens : (fourTo t e (seen, due.dropLast) (2 * i + j)).1.length ≤ 100 ∧ (fourTo t e (seen, due.dropLast) (2 * i + j)).2.length ≤ 100 := by
              have key : ∀ (l : List SS.Pr) (sd : List SS.Pr × List SS.Pr), (l.foldl SS.meetAdd sd).1.length ≤ sd.1.length + l.length ∧ (l.foldl SS.meetAdd sd).2.length ≤ sd.2.length + l.length := by
                intro l
                induction l with
                | nil => intro sd; simp
                | cons a l ih =>
                  intro sd
                  have h1 := ih (SS.meetAdd sd a)
                  have h2 : (SS.meetAdd sd a).1.length ≤ sd.1.length + 1 ∧ (SS.meetAdd sd a).2.length ≤ sd.2.length + 1 := by
                    unfold SS.meetAdd
                    split <;> simp
                  rw [List.foldl_cons, List.length_cons]
                  omega
              have k := key ((SS.four t e).take (2 * i + j)) (seen, due.dropLast)
              have l1 : ((SS.four t e).take (2 * i + j)).length ≤ 4 := by
                rw [List.length_take]
                have : (SS.four t e).length = 4 := rfl
                omega
              have l2 := inv.le
              have l3 : t.length * t.length ≤ 9 := Nat.mul_le_mul vc.le vc.le
              have l4 : due.dropLast.length ≤ due.length := by simp
              unfold fourTo
              simp only at k
              omega
            rw [step]
            generalize fourTo t e (seen, due.dropLast) (2 * i + j) = sd at st4 lens ⊢
            obtain ⟨dv4, hdv4, pd4⟩ := st4.due
            have dl4 := Paired.length pd4
            have sp : sa ≠ p := ne_of st4.seen hdv4 (fun z => nomatch z)
            refine ⟨_, rfl, _, rfl, l2, fun q1 hq1 => ⟨_, rfl, sa, _, rfl, DGet.t (k := (mkP (x', y')).1) (upd_keep st4.seen hq1) upd_same, _, rfl, ?_⟩⟩
            rw [val_mk]
            have s1 := same_upd2 (o := .tup [intT x', intT y']) st4.same (st4.same.free hq1)
            refine ite2 (fun c2 => ?_) (fun c2 => ?_)
            · have c2 : sd.1.contains (x', y') = false := by simpa using c2
              refine ⟨_, rfl, _, rfl, _, rfl, l2, fun q2 hq2 => ⟨sa, _, rfl, DPut.t (k := (mkP (x', y')).1) (upd_keep (upd_keep st4.seen hq1) hq2) upd_same (by rw [List.length_map]; exact lt_line (by omega)), ?_⟩⟩
              have s2 := same_upd2 (o := .tup [intT x', intT y']) s1 (s1.free hq2)
              have s3 := same_upd2 (o := .dT (putK (sd.1.map mkP) (mkP (x', y')).1 (.bl true))) s2 hsan
              have hp3 : (upd (upd (upd H4 q1 (.tup [intT x', intT y'])) q2 (.tup [intT x', intT y'])) sa (.dT (putK (sd.1.map mkP) (mkP (x', y')).1 (.bl true)))) p = some (.lst dv4) := by
                rw [upd_ne (Ne.symm sp)]
                exact upd_keep (upd_keep hdv4 hq1) hq2
              refine ⟨_, rfl, .inl ⟨rfl, _, SqL.of hp3⟩, _, rfl, _, rfl, l2, fun q3 hq3 => ⟨p, dv4, .ref q3, rfl, rfl, upd_keep hp3 hq3, lt_line (by omega), some (intT y'), rfl, ?_⟩⟩
              have s4 := same_upd2 (o := .tup [intT x', intT y']) s3 (s3.free hq3)
              have ma : SS.meetAdd sd (x', y') = (sd.1 ++ [(x', y')], sd.2 ++ [(x', y')]) := by
                unfold SS.meetAdd
                rw [c2]
                rfl
              rw [ma]
              refine ⟨same_upd2 s4 hpn, ?_, dv4 ++ [.ref q3], upd_same, ?_⟩
              · rw [upd_ne sp, ← put_mk c2]
                exact upd_keep upd_same hq3
              · refine Paired.snoc ?_ ⟨q3, rfl, ?_⟩
                · refine Paired.imp (fun v e h => ?_) pd4
                  have h1 := h.same (same_upd (o := .tup [intT x', intT y']) hq1)
                  have h2 := h1.same (same_upd (o := .tup [intT x', intT y']) hq2)
                  have h3 := h2.upd (u := .dT (putK (sd.1.map mkP) (mkP (x', y')).1 (.bl true))) (upd_keep (upd_keep st4.seen hq1) hq2) (fun _ z => nomatch z)
                  have h4 := h3.same (same_upd (o := .tup [intT x', intT y']) hq3)
                  exact h4.upd (upd_keep hp3 hq3) (fun _ z => nomatch z)
                · have np : q3 ≠ p := fun z => by rw [z, hp3] at hq3; cases hq3
                  rw [upd_ne np]
                  exact upd_same
            · have c2 : sd.1.contains (x', y') = true := by simpa using c2
              have ma : SS.meetAdd sd (x', y') = sd := if_pos c2
              rw [ma]
              exact ⟨some (intT y'), rfl, s1, upd_keep st4.seen hq1, dv4, upd_keep hdv4 hq1, Paired.imp (fun _ _ h => h.same (same_upd hq1)) pd4⟩
          · rintro σ H4 ⟨o8, rfl, st4⟩
            exact ⟨some (intT x'), o8, rfl, st4⟩
        · rintro σ H3 ⟨o7, o8, rfl, st3⟩
          have e4 : fourTo t e (seen, due.dropLast) 4 = (SS.four t e).foldl SS.meetAdd (seen, due.dropLast) := rfl
          have st3 : MeetSt K H H3 sa p ((SS.four t e).foldl SS.meetAdd (seen, due.dropLast)) := st3
          obtain ⟨dv3, hdv3, pd3⟩ := st3.due
          refine ⟨⟨_, _, _, _, o7, o8, rfl, st3, inv'.1, st3.seen, dv3, hdv3, Paired.length pd3⟩, ?_⟩
          rw [st3.seen, hdv3, hse, hdv]
          show 9 - (List.map mkP _).length + dv3.length < 9 - (List.map mkP seen).length + dv.length
          rw [List.length_map, List.length_map, Paired.length pd3, dl]
          exact inv'.2
  · exact fun σ H Q Q' m ⟨v, h1, k, h2, q⟩ => ⟨v, h1, k, h2, m _ _ q⟩

end
end SP

/-! ## W5 -/
set_option maxHeartbeats 4000000
namespace SP
open PySem PySem.Spec PyProof.Rows L2 SB
open SS (VC VG R Sz RateOk treeW ratesOf leadsTo)
open R7244e.Spec (reachable recurrentStates hasOneClass canMeet distribution wordProb endState coverage separation unstopped stopProbs survival entry target)
section
variable {P : Program} {w : World} {base : Heap}
variable {K : PySem.W.Frag} {mg : Str → Option Value}

theorem two_at {a b l : Nat} (h : l < 2) : [intT a, intT b][l]? = some (intT (if l = 0 then a else b)) := by
  match l, h with
  | 0, _ => rfl
  | 1, _ => rfl
theorem bits {c s : Nat} (hc : c < 8) (hs : s < 3) : Builtin.bitAnd (((c : Nat) : Int) / 2 ^ (((s : Nat) : Int)).toNat) 1 = (((c / 2 ^ s % 2 : Nat)) : Int) := by
  have key : ∀ c : Fin 8, ∀ s : Fin 3, Builtin.bitAnd (((c.val : Nat) : Int) / 2 ^ (((s.val : Nat) : Int)).toNat) 1 = (((c.val / 2 ^ s.val % 2 : Nat)) : Int) := by decide +kernel
  exact key ⟨c, hc⟩ ⟨s, hs⟩
theorem range_map_succ {α : Type} (f : Nat → α) (i : Nat) : (List.range (i + 1)).map f = (List.range i).map f ++ [f i] := by
  rw [List.range_succ, List.map_append]
  rfl
theorem lets_at {n c i : Nat} (h : i < n) : (SS.lettersOf n c)[i]? = some (c / 2 ^ i % 2) := by
  unfold SS.lettersOf
  rw [List.getElem?_map, List.getElem?_range h]
  rfl
theorem lets_getD {n c i : Nat} (h : i < n) : (SS.lettersOf n c).getD i 0 = c / 2 ^ i % 2 := by
  rw [List.getD_eq_getElem?_getD, lets_at h]
  rfl
theorem targets_eq (t : Chain) (n c : Nat) : SS.targetsOf t (SS.lettersOf n c) = (List.range n).map fun s => target t s (c / 2 ^ s % 2) := by
  unfold SS.targetsOf
  have l : (SS.lettersOf n c).length = n := by simp [SS.lettersOf]
  rw [l]
  exact List.map_congr_left fun s hs => by rw [lets_getD (List.mem_range.mp hs)]
theorem le_62 {x : Int} {n : Nat} (h : x = (n : Nat)) (h8 : n ≤ 8) : -(2 ^ 62) ≤ x ∧ x < 2 ^ 62 := by
  rw [h]
  constructor
  · exact Int.le_trans (by decide) (Int.natCast_nonneg n)
  · exact Int.lt_of_le_of_lt (Int.ofNat_le.mpr h8) (by decide)
theorem intT_mul (a b : Nat) : intT (a * b) = V.int ((a : Nat) * (b : Nat) : Int) := by rw [intT, Int.natCast_mul]
theorem intT_add (a b : Nat) : intT (a + b) = V.int ((a : Nat) + (b : Nat) : Int) := by rw [intT, Int.natCast_add]
abbrev s_tree_weight : Stmt := topS 15
theorem sc_tree_weight : FnScope ["chain", "weights", "root", "told", "choice", "letters", "targets", "weight", "state", "letter"] ["chain", "weights", "root"] (defScope s_tree_weight) := SB.sc_by (by decide +kernel)
theorem len_tree_weight {T : TX K mg} : ∀ vs H Q E, sp_tree_weight T vs H Q E → vs.length = (["chain", "weights", "root"] : List Str).length := by
  rintro _ H Q E ⟨_, _, _, _, _, rfl, _⟩
  rfl
theorem ok_tree_weight (T : TX K mg) (c_leads_to : SB.Cal P w K mg base 1 "leads_to" (sp_leads_to T))  {f : Addr} {fd : FuncData} (F : Fun K "tree_weight" "tree_weight" s_tree_weight f fd) : FnOk P w K mg base CX0 2 f fd ["chain", "weights", "root"] (sp_tree_weight T) := by
  refine F.ok sc_tree_weight len_tree_weight (fun cdv A outer s H vs Q E hr h => ⟨_, (pss_cons (ps_set (i := 3) sc_tree_weight.nd rfl (by first | exact Or.inl rfl | exact Or.inr rfl) pe_int) (pss_cons (ps_for (by first | exact PassesOwn.never | exact passes_of rfl) rfl (pi_range1 (by rfl) T.b_range (pa_cons (pe_op op_shl pe_int (pe_callB (SB.kLen (K := K) rfl) (by rfl) T.b_len PySem.boot_len (pa_cons (pv 0) pa_nil))) pa_nil)) (pg_name (i := 4) sc_tree_weight.nd rfl (by first | exact Or.inl rfl | exact Or.inr rfl)) (pss_cons (ps_setLc (i := 5) (own := [("state", 8)]) (g := (gName 8)) (tt := tYes) (by rfl) sc_tree_weight.nd rfl rfl (sw_true rfl rfl rfl (by decide +kernel)) (pi_range1 (by rfl) T.b_range (pa_cons (pe_callB (SB.kLen (K := K) rfl) (by rfl) T.b_len PySem.boot_len (pa_cons (pv 0) pa_nil)) pa_nil)) (blkOk_by (own := [("state", 8)]) (N := ["chain", "weights", "root", "told", "choice", "letters", "targets", "weight", "state", "letter"]) (sc := (defScope s_tree_weight)) (by decide +kernel)) (fun _ _ _ _ _ => (pg_name (i := 8) sc_tree_weight.nd rfl (by first | exact Or.inl rfl | exact Or.inr rfl))) (fun _ _ _ _ _ => pts_nil) (fun _ _ _ _ _ => (pe_op op_and (pe_op op_shr (pv 4) (pv 8)) pe_int))) (pss_cons (ps_set (i := 6) sc_tree_weight.nd rfl (by first | exact Or.inl rfl | exact Or.inr rfl) (pe_lc (own := [("state", 8), ("letter", 9)]) (g := (gTup K 2 (gCons (gName 8) (gCons (gName 9) gNil)))) (tt := tYes) (by rfl) sc_tree_weight.nd (pi_enum (by rfl) T.b_enumerate (pa_cons (pv 5) pa_nil)) (blkOk_by (own := [("state", 8), ("letter", 9)]) (N := ["chain", "weights", "root", "told", "choice", "letters", "targets", "weight", "state", "letter"]) (sc := (defScope s_tree_weight)) (by decide +kernel)) (fun _ _ _ _ _ => (pg_tup (by rfl) (pgs_cons (pg_name (i := 8) sc_tree_weight.nd rfl (by first | exact Or.inl rfl | exact Or.inr rfl)) (pgs_cons (pg_name (i := 9) sc_tree_weight.nd rfl (by first | exact Or.inl rfl | exact Or.inr rfl)) pgs_nil)))) (fun _ _ _ _ _ => pts_nil) (fun _ _ _ _ _ => (pe_ix (SB.kIxL (K := K) rfl) (pe_ix (SB.kIxL (K := K) rfl) (pv 0) (pv 8) (fun _ _ => rfl)) (pv 9) (fun _ _ => rfl))))) (pss_one (ps_if (PW.pt (pw_and (pt_cmpR op_eq (pe_ix (SB.kIxL (K := K) rfl) (pv 5) (pv 2) (fun _ _ => rfl)) pe_int (nomark _)) (pw_and1 (pt_val (pe_callB (SB.kAll (K := K) rfl rfl) (by rfl) T.b_all (by decide +kernel) (pa_cons (pe_lc (own := [("state", 8)]) (g := (gName 8)) (tt := tYes) (by rfl) sc_tree_weight.nd (pi_range1 (by rfl) T.b_range (pa_cons (pe_callB (SB.kLen (K := K) rfl) (by rfl) T.b_len PySem.boot_len (pa_cons (pv 0) pa_nil)) pa_nil)) (blkOk_by (own := [("state", 8)]) (N := ["chain", "weights", "root", "told", "choice", "letters", "targets", "weight", "state", "letter"]) (sc := (defScope s_tree_weight)) (by decide +kernel)) (fun _ _ _ _ _ => (pg_name (i := 8) sc_tree_weight.nd rfl (by first | exact Or.inl rfl | exact Or.inr rfl))) (fun _ _ _ _ _ => pts_nil) (fun _ _ _ _ _ => (SB.cal c_leads_to hr (by decide) rfl (pa_cons (pv 6) (pa_cons (pv 8) (pa_cons (pv 2) pa_nil)))))) pa_nil)))))) (pss_cons (ps_set (i := 7) sc_tree_weight.nd rfl (by first | exact Or.inl rfl | exact Or.inr rfl) pe_int) (pss_cons (ps_for (by first | exact PassesOwn.never | exact passes_of rfl) rfl (pi_enum (by rfl) T.b_enumerate (pa_cons (pv 5) pa_nil)) (pg_tup (by rfl) (pgs_cons (pg_name (i := 8) sc_tree_weight.nd rfl (by first | exact Or.inl rfl | exact Or.inr rfl)) (pgs_cons (pg_name (i := 9) sc_tree_weight.nd rfl (by first | exact Or.inl rfl | exact Or.inr rfl)) pgs_nil))) (pss_one (ps_set (i := 7) sc_tree_weight.nd rfl (by first | exact Or.inl rfl | exact Or.inr rfl) (pe_op op_mul (pv 7) (pe_ifExp (pt_cmpR op_eq (pv 8) (pv 2) (nomark _)) pe_int (pe_ix (SB.kIxL (K := K) rfl) (pv 1) (pv 9) (fun _ _ => rfl))))))) (pss_one (ps_aug (i := 3) sc_tree_weight.nd rfl (by first | exact Or.inl rfl | exact Or.inr rfl) (pv 7) ip_add)))) pss_nil))))) (pss_one (ps_ret (pv 3))))), ?_⟩)
  obtain ⟨c, t, ws, g, root, rfl, vc, vg, hr0, hc, hws, q⟩ := h
  obtain ⟨ca, cvs, rfl, _, hcl, hlen, hget⟩ := hc.get vc
  have vle := vc.le
  have p8 : 2 ^ t.length ≤ 8 := Nat.le_trans (Nat.pow_le_pow_right (by decide) vle) (by decide)
  have ecv : (((cvs.length : Nat) : Int)).toNat = t.length := by rw [hlen]; simp
  have ep : (1 : Int) * 2 ^ (((cvs.length : Nat) : Int)).toNat = ((2 ^ t.length : Nat) : Int) := by
    rw [ecv, Int.one_mul, Int.natCast_pow]
    rfl
  refine ⟨_, rfl, ca, _, rfl, .inl hcl, _, _, rfl, rfl, ⟨by omega, by rw [hlen]; omega, by decide⟩, _, rfl, ?_, ?_, ?_⟩
  · show -(2 ^ 62) ≤ (1 : Int) * 2 ^ (((cvs.length : Nat) : Int)).toNat
    exact (le_62 ep p8).1
  · show (1 : Int) * 2 ^ (((cvs.length : Nat) : Int)).toNat < 2 ^ 62
    exact (le_62 ep p8).2
  have et : ((1 : Int) * 2 ^ (((cvs.length : Nat) : Int)).toNat).toNat = 2 ^ t.length := by rw [ep, Int.toNat_natCast]
  rw [et]
  refine for_range (lo := 0) (n := 2 ^ t.length) (fun k σ H' => ∃ o4 o5 o6 o7 o8 o9 : Option V, σ = [some (.ref ca), some (.ref ws), some (intT root), some (intT (SS.treeAt t g root k)), o4, o5, o6, o7, o8, o9] ∧ Same H H')
    ⟨none, none, none, none, none, none, rfl, Same.refl H⟩ ?_ ?_
  · rintro k σ H1 hk ⟨o4, o5, o6, o7, o8, o9, rfl, s1⟩
    have ei : (0 : Int) + (k : Nat) = ((k : Nat) : Int) := by omega
    rw [ei]
    have hk8 : k < 8 := by omega
    -- letters
    refine ⟨_, rfl, ca, _, rfl, .inl (Same.seq s1 hcl), _, rfl, by rw [hlen]; omega, by rw [hlen]; omega, fun D hD => ?_⟩
    rw [ecv]
    refine lc_range (lo := 0) (n := t.length) (fun i H3 => Same H1 H3 ∧ H3 D = some (.lst ((List.range i).map fun s => intT (k / 2 ^ s % 2)))) ⟨same_upd hD, upd_same⟩ ?_ ?_
    · rintro i H3 hi ⟨s3, h3⟩
      have ei2 : (0 : Int) + (i : Nat) = ((i : Nat) : Int) := by omega
      rw [ei2]
      refine ⟨rfl, lcYes ⟨_, rfl, _, rfl, _, _, rfl, rfl, (by show (0 : Int) ≤ (i : Nat); omega), _, _, rfl, rfl, _, h3, ?_, same_upd2 s3 hD, ?_⟩⟩
      · rw [List.length_map, List.length_range]
        exact lt_line (by omega)
      · rw [upd_same, range_map_succ]
        show some (HO.lst (_ ++ [V.int (Builtin.bitAnd (((k : Nat) : Int) / 2 ^ (((i : Nat) : Int)).toNat) 1)])) = _
        rw [bits hk8 (by omega)]
    rintro H2 ⟨s2, h2⟩
    have h2 : H2 D = some (.lst ((SS.lettersOf t.length k).map intT)) := by
      rw [h2]
      unfold SS.lettersOf
      rw [List.map_map]
      rfl
    have ll : (SS.lettersOf t.length k).length = t.length := by simp [SS.lettersOf]
    -- targets
    refine ⟨_, rfl, D, _, rfl, SqL.of h2, fun D2 hD2 => ?_⟩
    refine lc_it (walk_enum (K := K) (a := D) (xs := (SS.lettersOf t.length k).map intT)) (fun i H3 => Same H2 H3 ∧ H3 D2 = some (.lst ((List.range i).map fun s => intT (target t s (k / 2 ^ s % 2))))) ⟨same_upd hD2, upd_same⟩ (fun i H3 _ ⟨s3, _⟩ => Same.seq s3 (SqL.of h2)) ?_ ?_
    · rintro i x H3 H4 hi ⟨s3, h3⟩ ⟨Tp, x1, y1, rfl, hT, rfl, e1, e2⟩
      cases e1
      rw [List.length_map, ll] at hi
      have e2 : (_)[i]? = some y1 := e2
      rw [map_get (lets_at hi)] at e2
      cases e2
      obtain ⟨b, hb, _, hq⟩ := hget i hi
      have s4 := same_upd2 (o := .tup [intT i, intT (k / 2 ^ i % 2)]) s3 (s3.free hT)
      have l2 : k / 2 ^ i % 2 < 2 := Nat.mod_lt _ (by decide)
      refine ⟨Tp, _, rfl, SqT.of upd_same, rfl, _, _, rfl, _, _, rfl, rfl, rfl, lcYes ⟨_, rfl, _, rfl, ca, _, i, _, rfl, rfl, Same.seq ((s1.trans s2).trans s4) hcl, atI_nat hb, _, rfl, b, _, _, _, rfl, rfl, Same.seq ((s1.trans s2).trans s4) hq, atI_nat (two_at l2), _, upd_keep h3 hT, ?_, same_upd2 s4 hD2, ?_⟩⟩
      · rw [List.length_map, List.length_range]
        exact lt_line (by omega)
      · rw [upd_same, range_map_succ]
        have e5 : (if k / 2 ^ i % 2 = 0 then target t i 0 else target t i 1) = target t i (k / 2 ^ i % 2) := by
          have : k / 2 ^ i % 2 = 0 ∨ k / 2 ^ i % 2 = 1 := by omega
          rcases this with z | z <;> rw [z] <;> rfl
        rw [e5]
    rintro H3 ⟨s3, h3⟩
    rw [List.length_map, ll] at h3
    have h3 : H3 D2 = some (.lst ((SS.targetsOf t (SS.lettersOf t.length k)).map intT)) := by
      rw [h3, targets_eq, List.map_map]
      rfl
    have tl : (SS.targetsOf t (SS.lettersOf t.length k)).length = t.length := by rw [targets_eq]; simp
    have tin : ∀ x ∈ SS.targetsOf t (SS.lettersOf t.length k), x < (SS.targetsOf t (SS.lettersOf t.length k)).length := by
      intro x hx
      rw [tl]
      rw [targets_eq] at hx
      obtain ⟨s, hs, rfl⟩ := List.mem_map.mp hx
      exact vc.tgt (List.mem_range.mp hs) _
    have s123 := (s1.trans s2).trans s3
    have tstep : SS.treeAt t g root (k + 1) = SS.treeAdd t g root (SS.treeAt t g root k) k := rfl
    unfold SS.treeAdd at tstep
    rw [lets_getD hr0] at tstep
    refine ⟨_, rfl, _, rfl, D, _, root, _, rfl, rfl, SqL.of (s3 _ _ h2), atI_nat (map_get (lets_at hr0)), rfl, _, rfl, ?_⟩
    have e0 : decide (intT (k / 2 ^ root % 2) = V.int 0) = decide (k / 2 ^ root % 2 = 0) := by
      rw [decide_eq_decide]
      constructor
      · intro z
        injection z with z
        omega
      · intro z
        rw [z]
        rfl
    refine ite2 (fun c1 => ?_) (fun c1 => ?_)
    · have c1 : k / 2 ^ root % 2 = 0 := of_decide_eq_true (e0 ▸ c1)
      refine ⟨_, rfl, ca, _, rfl, .inl (Same.seq s123 hcl), _, rfl, by rw [hlen]; omega, by rw [hlen]; omega, fun D3 hD3 => ?_⟩
      rw [ecv]
      refine lc_range (lo := 0) (n := t.length) (fun i H4 => Same H3 H4 ∧ H4 D3 = some (.lst ((List.range i).map fun s => V.bl (leadsTo (SS.targetsOf t (SS.lettersOf t.length k)) s root)))) ⟨same_upd hD3, upd_same⟩ ?_ ?_
      · rintro i H4 hi ⟨s4, h4⟩
        have ei2 : (0 : Int) + (i : Nat) = ((i : Nat) : Int) := by omega
        rw [ei2]
        refine ⟨rfl, lcYes ⟨_, rfl, _, rfl, _, rfl, D2, _, i, root, rfl, SqL.of (s4 _ _ h3), by omega, tin, by omega, _, h4, ?_, same_upd2 s4 hD3, ?_⟩⟩
        · rw [List.length_map, List.length_range]
          exact lt_line (by omega)
        · rw [upd_same, range_map_succ]
      rintro H4 ⟨s4, h4⟩
      have eb : ((List.range t.length).map fun s => V.bl (leadsTo (SS.targetsOf t (SS.lettersOf t.length k)) s root)) = ((List.range t.length).map fun s => leadsTo (SS.targetsOf t (SS.lettersOf t.length k)) s root).map V.bl := by rw [List.map_map]; rfl
      rw [eb] at h4
      refine ⟨D3, _, rfl, SqL.of h4, _, rfl, ?_⟩
      rw [List.all_map]
      have s1234 := s123.trans s4
      have hD4 := s4 _ _ (s3 _ _ h2)
      refine ite2 (fun c2 => ?_) (fun c2 => ?_)
      · rw [if_pos ⟨c1, c2⟩] at tstep
        refine ⟨_, rfl, D, _, rfl, SqL.of hD4, ?_⟩
        refine for_it (walk_enum (K := K) (a := D) (xs := (SS.lettersOf t.length k).map intT)) (fun i σ H5 => ∃ o8 o9 : Option V, σ = [some (.ref ca), some (.ref ws), some (intT root), some (intT (SS.treeAt t g root k)), some (intT k), some (.ref D), some (.ref D2), some (intT (SS.weightAt g root (SS.lettersOf t.length k) i)), o8, o9] ∧ Same H H5 ∧ Same H4 H5)
          ⟨o8, o9, rfl, s1234, Same.refl H4⟩ (fun i σ H5 _ ⟨_, _, _, _, s5⟩ => Same.seq s5 (SqL.of hD4)) ?_ ?_
        · rintro i x σ H5 H6 hi ⟨o8, o9, rfl, s5, s45⟩ ⟨Tp, x1, y1, rfl, hT, rfl, e1, e2⟩
          cases e1
          rw [List.length_map, ll] at hi
          have e2 : (_)[i]? = some y1 := e2
          rw [map_get (lets_at hi)] at e2
          cases e2
          have l2 : k / 2 ^ i % 2 < 2 := Nat.mod_lt _ (by decide)
          have s6 := same_upd2 (o := .tup [intT i, intT (k / 2 ^ i % 2)]) s5 (s5.free hT)
          have s46 := same_upd2 (o := .tup [intT i, intT (k / 2 ^ i % 2)]) s45 (s45.free hT)
          have wst : SS.weightAt g root (SS.lettersOf t.length k) (i + 1) = SS.weightAt g root (SS.lettersOf t.length k) i * (if i = root then 1 else SS.wgt g (k / 2 ^ i % 2)) := by
            rw [← lets_getD hi]
            rfl
          refine ⟨Tp, _, rfl, SqT.of upd_same, rfl, _, _, rfl, _, _, rfl, rfl, _, rfl, _, rfl, _, rfl, rfl, _, rfl, ?_⟩
          refine ite2 (fun c3 => ?_) (fun c3 => ?_)
          · have c3 : i = root := by
              have := of_decide_eq_true c3
              injection this with this
              omega
            rw [if_pos c3] at wst
            refine ⟨_, _, rfl, rfl, .inr ⟨by decide, by decide⟩, some (intT i), some (intT (k / 2 ^ i % 2)), ?_, s6, s46⟩
            rw [wst]
            show [_, _, _, _, _, _, _, some (V.int (((SS.weightAt g root (SS.lettersOf t.length k) i : Nat) : Int) * 1)), _, _] = _
            rw [Int.mul_one, Nat.mul_one]
          · have c3 : ¬ i = root := fun z => c3 (decide_eq_true (by rw [z]))
            rw [if_neg c3] at wst
            have w6 : SS.wgt g (k / 2 ^ i % 2) ≤ 6 := by
              have := vg.le
              have := vg.lt
              unfold SS.wgt
              split <;> omega
            have ew : (if k / 2 ^ i % 2 = 0 then g.1 else g.2 - g.1) = SS.wgt g (k / 2 ^ i % 2) := rfl
            refine ⟨_, rfl, _, rfl, ws, _, _, _, rfl, rfl, Same.seq s6 hws, atI_nat (two_at l2), _, _, rfl, rfl, ?_, some (intT i), some (intT (k / 2 ^ i % 2)), ?_, s6, s46⟩
            · rw [ew]
              exact .inr ⟨by omega, by omega⟩
            · rw [wst, ew, intT_mul]
              rfl
        · rintro σ H5 ⟨o8, o9, rfl, s5, s45⟩
          rw [List.length_map, ll]
          refine ⟨_, rfl, _, rfl, _, _, rfl, rfl, some (intT k), some (.ref D), some (.ref D2), some (intT (SS.weightAt g root (SS.lettersOf t.length k) t.length)), o8, o9, ?_, s5⟩
          rw [tstep, intT_add]
          rfl
      · rw [if_neg (fun z => c2 z.2)] at tstep
        rw [tstep]
        exact ⟨_, _, _, _, _, _, rfl, s1234⟩
    · have c1 : ¬ k / 2 ^ root % 2 = 0 := fun z => c1 (e0 ▸ decide_eq_true z)
      rw [if_neg (fun z => c1 z.1)] at tstep
      refine iteF ?_
      rw [tstep]
      exact ⟨_, _, _, _, _, _, rfl, s123⟩
  · rintro σ H1 ⟨o4, o5, o6, o7, o8, o9, rfl, s1⟩
    exact ⟨_, rfl, q H1 s1⟩

end
end SP

/-! ## W6 -/
set_option maxHeartbeats 4000000
namespace SP
open PySem PySem.Spec PyProof.Rows L2 SB
open SS (VC VG R Sz RateOk treeW ratesOf leadsTo)
open R7244e.Spec (reachable recurrentStates hasOneClass canMeet distribution wordProb endState coverage separation unstopped stopProbs survival entry target)
section
variable {P : Program} {w : World} {base : Heap}
variable {K : PySem.W.Frag} {mg : Str → Option Value}

theorem lt_8000 {n : Nat} (h : n < 1024) : n < 2 ^ 8000 := Nat.lt_of_lt_of_le h (Nat.le_trans (by decide : 1024 ≤ 2 ^ 10) (Nat.pow_le_pow_right (by decide) (by decide)))
theorem free_upd {H : Hp} {p a : Addr} {o : HO} (h : upd H p o a = none) : H a = none := by
  by_cases e : a = p
  · subst e; rw [upd_same] at h; cases h
  · rwa [upd_ne e] at h
/-- an instance is off -/
theorem offI {I : Addr → Prop} {H : Hp} {x C dx : Addr} {fs : List (Str × V)} (h : H x = some (.ins C dx fs)) : Off (· = x) I H where
  tup := fun b xs e q => by subst e; rw [h] at q; cases q
  ftup := fun b o u e q => by subst e; rw [h] at q; cases q
  lst := fun b xs e _ q => by subst e; rw [h] at q; cases q
theorem offL {I : Addr → Prop} {H : Hp} {x : Addr} {xs : List V} (h : H x = some (.lst xs)) (n : ¬ I x) : Off (· = x) I H where
  tup := fun b xs e q => by subst e; rw [h] at q; cases q
  ftup := fun b o u e q => by subst e; rw [h] at q; cases q
  lst := fun b xs e i q => by subst e; exact n i
theorem chg1 {H : Hp} {x : Addr} {o : HO} : Chg (· = x) H (upd H x o) := chg_upd (Chg.refl H) (.inr rfl)
/-- a list of fractions that grows -/
def Acc (K : PySem.W.Frag) (H : Hp) (D : Addr) (xs : List Rat) : Prop := ∃ vs, H D = some (.lst vs) ∧ Paired (FrAt K H) vs xs
theorem FrAt.updL {K : PySem.W.Frag} {H : Hp} {v : V} {x : Rat} {D : Addr} {ys zs : List V} (h : H D = some (.lst ys)) (q : FrAt K H v x) : FrAt K (upd H D (.lst zs)) v x :=
  q.off (M := (· = D)) (I := fun _ => False) (offL h (fun z => z)) chg1
theorem Acc.nil {K : PySem.W.Frag} {H : Hp} {D : Addr} : Acc K (upd H D (.lst [])) D [] := ⟨[], upd_same, .nil⟩
theorem Acc.same {K : PySem.W.Frag} {H H' : Hp} {D : Addr} {xs : List Rat} (s : Same H H') (h : Acc K H D xs) : Acc K H' D xs := by
  obtain ⟨vs, h1, h2⟩ := h
  exact ⟨vs, s _ _ h1, Paired.imp (fun _ _ q => FrAt.same s q) h2⟩
theorem Acc.snoc {K : PySem.W.Frag} {H : Hp} {D : Addr} {xs : List Rat} {v : V} {x : Rat} (h : Acc K H D xs) (q : FrAt K H v x) (l : xs.length ≤ 100) :
    ∃ acc, H D = some (.lst acc) ∧ acc.length < sizeLine ∧ Acc K (upd H D (.lst (acc ++ [v]))) D (xs ++ [x]) := by
  obtain ⟨vs, h1, h2⟩ := h
  exact ⟨vs, h1, lt_line (by rw [Paired.length h2]; omega), _, upd_same, Paired.snoc (Paired.imp (fun _ _ z => FrAt.updL h1 z) h2) (FrAt.updL h1 q)⟩
theorem Acc.frs {K : PySem.W.Frag} {I : Addr → Prop} {H : Hp} {D : Addr} {xs : List Rat} (h : Acc K H D xs) (i : I D) : FrsAt K I H (.ref D) xs := by
  obtain ⟨vs, h1, h2⟩ := h
  exact ⟨D, vs, rfl, i, SqL.of h1, h2⟩
theorem seq_same {K : PySem.W.Frag} {H H' : Hp} {a : Addr} {xs : List V} (s : Same H H') (h : SqL K H a xs) : SqL K H' a xs := Same.seq s h
theorem take_map_succ {α β : Type} {f : α → β} {l : List α} {i : Nat} {x : α} (h : l[i]? = some x) : (l.take (i + 1)).map f = (l.take i).map f ++ [f x] := by
  rw [List.take_add_one, h, List.map_append]
  rfl
theorem map_intT (l : List Nat) : (l.map fun n => ((n : Nat) : Int)).map V.int = l.map intT := by rw [List.map_map]; rfl
theorem sum_intT (l : List Nat) : (l.map fun n => ((n : Nat) : Int)).sum = ((l.sum : Nat) : Int) := by
  induction l with
  | nil => rfl
  | cons a l ih => rw [List.map_cons, List.sum_cons, ih, List.sum_cons, Int.natCast_add]
theorem two_pow_lt {n : Nat} (h : n < 2 ^ 1000) : n < 2 ^ 8000 := Nat.lt_of_lt_of_le h (Nat.pow_le_pow_right (by decide) (by decide))
abbrev s_Drawn___init__ : Stmt := inClass (topS 16) 0
theorem sc_Drawn___init__ : FnScope ["self", "chain", "bias"] ["self", "chain", "bias"] (defScope s_Drawn___init__) := SB.sc_by (by decide +kernel)
theorem len_Drawn___init__ {T : TX K mg} : ∀ vs H Q E, sp_Drawn___init__ T vs H Q E → vs.length = (["self", "chain", "bias"] : List Str).length := by
  rintro _ H Q E ⟨_, _, _, _, _, rfl, _⟩
  rfl
theorem ok_Drawn___init__ (T : TX K mg)   {f : Addr} {fd : FuncData} (F : Fun K "__init__" "Drawn.__init__" s_Drawn___init__ f fd) : FnOk P w K mg base CX0 1 f fd ["self", "chain", "bias"] (sp_Drawn___init__ T) := by
  refine F.ok sc_Drawn___init__ len_Drawn___init__ (fun cdv A outer s H vs Q E hr h => ⟨_, (pss_cons (ps_fld (pv 0) (pv 1) rfl) (pss_cons (ps_fld (pv 0) (pe_ix (SB.kIxL (K := K) rfl) (pv 2) pe_int (fun _ _ => rfl)) rfl) (pss_one (ps_fld (pv 0) (pe_lst (pa_cons (pe_ix (SB.kIxL (K := K) rfl) (pv 2) pe_int (fun _ _ => rfl)) (pa_cons (pe_op op_sub (pe_ix (SB.kIxL (K := K) rfl) (pv 2) pe_int (fun _ _ => rfl)) (pe_ix (SB.kIxL (K := K) rfl) (pv 2) pe_int (fun _ _ => rfl))) pa_nil))) rfl)))), ?_⟩)
  obtain ⟨x, dx, c, ba, g, rfl, hx, hb, hle, q⟩ := h
  refine ⟨_, rfl, _, rfl, x, T.Drawn, dx, [], rfl, hx, T.clDrawn, T.nDrawn_chain, by decide, ?_⟩
  rw [pnDrawn_chain]
  have hb1 : SqL K (upd H x (.ins T.Drawn dx [("chain", c)])) ba [intT g.1, intT g.2] := (offI (I := Any) hx).sqL chg1 trivial hb
  refine ⟨_, rfl, ba, _, 1, _, rfl, rfl, hb1, rfl, _, rfl, x, T.Drawn, dx, _, rfl, upd_same, T.clDrawn, T.nDrawn_below, (show 1 < 1000 by decide), ?_⟩
  rw [pnDrawn_below]
  have hb2 := (offI (I := Any) (show upd H x (.ins T.Drawn dx [("chain", c)]) x = _ from upd_same)).sqL (chg1 (o := .ins T.Drawn dx [("chain", c), ("below", intT g.2)])) trivial hb1
  refine ⟨_, rfl, ba, _, 0, _, rfl, rfl, hb2, rfl, _, rfl, ba, _, 1, _, rfl, rfl, hb2, rfl, _, rfl, ba, _, 0, _, rfl, rfl, hb2, rfl, _, _, rfl, rfl, le_line (by show 2 ≤ _; decide), fun ws hw => ⟨_, rfl, x, T.Drawn, dx, _, rfl, upd_keep upd_same hw, T.clDrawn, T.nDrawn_weights, (show 2 < 1000 by decide), ?_⟩⟩
  rw [pnDrawn_weights]
  have nw : ws ≠ x := fun e => by subst e; rw [upd_same] at hw; cases hw
  have e : (g.2 : Int) - (g.1 : Int) = ((g.2 - g.1 : Nat) : Int) := by omega
  dsimp only
  rw [e]
  refine q _ ws ?_ (free_upd (free_upd hw)) upd_same ?_
  · exact chg_upd (chg_upd (chg_upd (chg_upd (Chg.refl H) (.inr rfl)) (.inr rfl)) (.inl (free_upd (free_upd hw)))) (.inr rfl)
  · rw [upd_ne nw, upd_same]
abbrev s_Drawn_stationary : Stmt := inClass (topS 16) 1
theorem sc_Drawn_stationary : FnScope ["self", "rows", "root", "own"] ["self"] (defScope s_Drawn_stationary) := SB.sc_by (by decide +kernel)
theorem len_Drawn_stationary {T : TX K mg} : ∀ vs H Q E, sp_Drawn_stationary T vs H Q E → vs.length = (["self"] : List Str).length := by
  rintro _ H Q E ⟨_, _, _, rfl, _⟩
  rfl
theorem ok_Drawn_stationary (T : TX K mg) (c_fraction : SB.Cal P w K mg base 2 "fraction" (sp_fraction T)) (c_tree_weight : SB.Cal P w K mg base 2 "tree_weight" (sp_tree_weight T))  {f : Addr} {fd : FuncData} (F : Fun K "stationary" "Drawn.stationary" s_Drawn_stationary f fd) : FnOk P w K mg base CX0 3 f fd ["self"] (sp_Drawn_stationary T) := by
  refine F.ok sc_Drawn_stationary len_Drawn_stationary (fun cdv A outer s H vs Q E hr h => ⟨_, (pss_cons (ps_set (i := 1) sc_Drawn_stationary.nd rfl (by first | exact Or.inl rfl | exact Or.inr rfl) (pe_lc (own := [("root", 2)]) (g := (gName 2)) (tt := tYes) (by rfl) sc_Drawn_stationary.nd (pi_range1 (by rfl) T.b_range (pa_cons (pe_callB (SB.kLen (K := K) rfl) (by rfl) T.b_len PySem.boot_len (pa_cons (SB.kFld (K := K) rfl (pv 0) rfl) pa_nil)) pa_nil)) (blkOk_by (own := [("root", 2)]) (N := ["self", "rows", "root", "own"]) (sc := (defScope s_Drawn_stationary)) (by decide +kernel)) (fun _ _ _ _ _ => (pg_name (i := 2) sc_Drawn_stationary.nd rfl (by first | exact Or.inl rfl | exact Or.inr rfl))) (fun _ _ _ _ _ => pts_nil) (fun _ _ _ _ _ => (SB.cal c_tree_weight hr (by decide) rfl (pa_cons (SB.kFld (K := K) rfl (pv 0) rfl) (pa_cons (SB.kFld (K := K) rfl (pv 0) rfl) (pa_cons (pv 2) pa_nil))))))) (pss_one (ps_ret (pe_lc (own := [("own", 3)]) (g := (gName 3)) (tt := tYes) (by rfl) sc_Drawn_stationary.nd (SB.kPiL (K := K) rfl (pv 1)) (blkOk_by (own := [("own", 3)]) (N := ["self", "rows", "root", "own"]) (sc := (defScope s_Drawn_stationary)) (by decide +kernel)) (fun _ _ _ _ _ => (pg_name (i := 3) sc_Drawn_stationary.nd rfl (by first | exact Or.inl rfl | exact Or.inr rfl))) (fun _ _ _ _ _ => pts_nil) (fun _ _ _ _ _ => (SB.cal c_fraction hr (by decide) rfl (pa_cons (pv 3) (pa_cons (pe_callB (SB.kSum (K := K) rfl rfl) (by rfl) T.b_sum (by decide +kernel) (pa_cons (pv 1) pa_nil)) pa_nil)))))))), ?_⟩)
  obtain ⟨v, t, g, rfl, vc, vg, r, ⟨a, dx, c, ws, rfl, ha, hc, _, hw⟩, q⟩ := h
  obtain ⟨ca, cvs, rfl, _, hcl, hlen, hget⟩ := hc.get vc
  have vle := vc.le
  have ecv : (((cvs.length : Nat) : Int)).toNat = t.length := by rw [hlen]; simp
  refine ⟨_, rfl, a, T.Drawn, _, _, _, rfl, ha, T.clDrawn, T.nDrawn_chain, lkDrawn_chain, ca, _, rfl, .inl hcl, _, rfl, by rw [hlen]; omega, by rw [hlen]; omega, fun D hD => ?_⟩
  rw [ecv]
  refine lc_range (lo := 0) (n := t.length) (fun i H3 => Same H H3 ∧ H3 D = some (.lst ((List.range i).map fun k => intT (treeW t g k)))) ⟨same_upd hD, upd_same⟩ ?_ ?_
  · rintro i H3 hi ⟨s3, h3⟩
    have ei : (0 : Int) + (i : Nat) = ((i : Nat) : Int) := by omega
    rw [ei]
    refine ⟨rfl, lcYes ⟨_, rfl, a, T.Drawn, _, _, _, rfl, (s3 _ _ ha), T.clDrawn, T.nDrawn_chain, lkDrawn_chain, _, rfl, a, T.Drawn, _, _, _, rfl, (s3 _ _ ha), T.clDrawn, T.nDrawn_weights, lkDrawn_weights, _, rfl, .ref ca, t, ws, g, i, rfl, vc, vg, hi, hc.same s3, Same.seq s3 hw, fun H4 s4 => ⟨_, s4 _ _ h3, ?_, same_upd2 (s3.trans s4) hD, ?_⟩⟩⟩
    · rw [List.length_map, List.length_range]
      exact lt_line (by omega)
    · rw [upd_same, List.range_succ, List.map_append]
      rfl
  rintro H1 ⟨s1, h1⟩
  have h1 : H1 D = some (.lst ((SS.treesOf t g).map intT)) := by
    rw [h1]
    unfold SS.treesOf
    rw [List.map_map]
    rfl
  refine ⟨_, rfl, D, rfl, ⟨_, SqL.of h1⟩, fun D2 hD2 => ?_⟩
  have lt := SS.len_trees t g
  refine lc_list (K := K) (a := D) (xs := (SS.treesOf t g).map intT) (fun j H3 => Same H1 H3 ∧ Acc K H3 D2 (((SS.treesOf t g).take j).map fun (x : Nat) => mkRat (x : Nat) (SS.treesOf t g).sum)) ⟨same_upd hD2, Acc.nil⟩ (fun j H3 _ ⟨s3, _⟩ => Same.seq s3 (SqL.of h1)) ?_ ?_
  · rintro j x H3 hx ⟨s3, h3⟩
    obtain ⟨z, hz, rfl⟩ := get_map hx
    have e5 : V.int (((SS.treesOf t g).map fun (n : Nat) => ((n : Nat) : Int)).sum) = intT (SS.treesOf t g).sum := by rw [sum_intT]
    refine ⟨rfl, lcYes ⟨_, rfl, _, rfl, D, (SS.treesOf t g).map fun (n : Nat) => ((n : Nat) : Int), rfl, by rw [map_intT]; exact Same.seq s3 (SqL.of h1), z, (SS.treesOf t g).sum, by rw [e5]; rfl, r.pos, lt_8000 r.lt, fun H4 v s4 f4 => ?_⟩⟩
    obtain ⟨acc, a1, a2, a3⟩ := (h3.same s4).snoc f4 (by rw [List.length_map, List.length_take]; omega)
    refine ⟨acc, a1, a2, same_upd2 (s3.trans s4) hD2, ?_⟩
    rw [take_map_succ hz]
    exact a3
  · rintro H3 ⟨s3, h3⟩
    rw [List.length_map, List.take_length] at h3
    exact q H3 _ (s1.trans s3) (h3.frs ⟨s1.free hD2, fun z => by obtain ⟨_, e, _⟩ := h3; rw [z] at e; cases e⟩)
theorem dist_list {t : Chain} (v : VC t) {g : Bias} (hg : VG g) {p : Nat} (k : Nat) : distribution t g p k = (SS.rowsAt t g p k).map fun (x : Nat) => mkRat (x : Nat) (g.2 ^ k) := by
  apply List.ext_getElem
  · rw [List.length_map, SS.len_dist, SS.len_rows]
  · intro i h1 h2
    rw [SS.len_dist] at h1
    have e := SS.entry_dist v hg (p := p) k i h1
    unfold entry at e
    rw [SS.getD_at (by rw [SS.len_dist]; exact h1)] at e
    rw [e, List.getElem_map, Rat.mkRat_eq_div, SS.getD_at (by rw [SS.len_rows]; exact h1)]
    rfl
theorem six_pow (n : Nat) (h : n ≤ 9) (b : Nat) (hb : b ≤ 6) : b ^ n < 2 ^ 30 :=
  Nat.lt_of_le_of_lt (Nat.le_trans (Nat.pow_le_pow_left hb n) (Nat.pow_le_pow_right (by decide) h)) (by decide)
theorem wide_nat {a b : Nat} (ha : a < 2 ^ 60) (hb : b < 2 ^ 60) : CMulW (a : Nat) (b : Nat) :=
  wide_mul (a := 60) (b := 60) (by rw [Int.natAbs_natCast]; exact ha) (by rw [Int.natAbs_natCast]; exact hb) (by decide) (by decide) (by decide)
theorem to60 {a n : Nat} (h : a < 2 ^ n) (hn : n ≤ 60) : a < 2 ^ 60 := Nat.lt_of_lt_of_le h (Nat.pow_le_pow_right (by decide) hn)
theorem prod_le (g : Bias) (vg : VG g) : ∀ (w : List Nat) (a : Nat), (w.map (SS.wgt g)).foldl (· * ·) a ≤ a * 6 ^ w.length
  | [], a => by simp
  | c :: w, a => by
    have h := prod_le g vg w (a * SS.wgt g c)
    have w6 : SS.wgt g c ≤ 6 := by
      have := vg.le
      have := vg.lt
      unfold SS.wgt
      split <;> omega
    refine Nat.le_trans h ?_
    rw [List.length_cons, Nat.pow_succ, Nat.mul_comm (6 ^ _) 6, ← Nat.mul_assoc]
    exact Nat.mul_le_mul_right _ (Nat.mul_le_mul_left _ w6)
def wordAt (g : Bias) (w : List Nat) (j : Nat) : Nat := ((w.take j).map (SS.wgt g)).foldl (· * ·) 1
theorem wordAt_succ {g : Bias} {w : List Nat} {j c : Nat} (h : w[j]? = some c) : wordAt g w (j + 1) = wordAt g w j * SS.wgt g c := by
  unfold wordAt
  rw [take_map_succ h, List.foldl_append]
  rfl
theorem wordAt_lt {g : Bias} (vg : VG g) {w : List Nat} (l : w.length ≤ 8) (j : Nat) : wordAt g w j < 2 ^ 30 := by
  have h := prod_le g vg (w.take j) 1
  rw [Nat.one_mul] at h
  exact Nat.lt_of_le_of_lt h (six_pow _ (by rw [List.length_take]; omega) 6 (by decide))
theorem wgt_le {g : Bias} (vg : VG g) (c : Nat) : SS.wgt g c ≤ 6 := by
  have := vg.le
  have := vg.lt
  unfold SS.wgt
  split <;> omega
theorem wgt_at {g : Bias} {c : Nat} (h : c < 2) : atI [intT g.1, intT (g.2 - g.1)] ((c : Nat) : Int) = some (intT (SS.wgt g c)) := by
  match c, h with
  | 0, _ => rfl
  | 1, _ => rfl
abbrev s_Drawn_probability_of : Stmt := inClass (topS 16) 3
theorem sc_Drawn_probability_of : FnScope ["self", "word", "above", "below", "letter"] ["self", "word"] (defScope s_Drawn_probability_of) := SB.sc_by (by decide +kernel)
theorem len_Drawn_probability_of {T : TX K mg} : ∀ vs H Q E, sp_Drawn_probability_of T vs H Q E → vs.length = (["self", "word"] : List Str).length := by
  rintro _ H Q E ⟨_, _, _, _, _, rfl, _⟩
  rfl
theorem ok_Drawn_probability_of (T : TX K mg) (c_fraction : SB.Cal P w K mg base 2 "fraction" (sp_fraction T))  {f : Addr} {fd : FuncData} (F : Fun K "probability_of" "Drawn.probability_of" s_Drawn_probability_of f fd) : FnOk P w K mg base CX0 3 f fd ["self", "word"] (sp_Drawn_probability_of T) := by
  refine F.ok sc_Drawn_probability_of len_Drawn_probability_of (fun cdv A outer s H vs Q E hr h => ⟨_, (pss_cons (ps_set (i := 2) sc_Drawn_probability_of.nd rfl (by first | exact Or.inl rfl | exact Or.inr rfl) pe_int) (pss_cons (ps_set (i := 3) sc_Drawn_probability_of.nd rfl (by first | exact Or.inl rfl | exact Or.inr rfl) pe_int) (pss_cons (ps_for (by first | exact PassesOwn.never | exact passes_of rfl) rfl (pi_tup (pv 1)) (pg_name (i := 4) sc_Drawn_probability_of.nd rfl (by first | exact Or.inl rfl | exact Or.inr rfl)) (pss_cons (ps_set (i := 2) sc_Drawn_probability_of.nd rfl (by first | exact Or.inl rfl | exact Or.inr rfl) (pe_op op_mulW (pv 2) (pe_ix (SB.kIxL (K := K) rfl) (SB.kFld (K := K) rfl (pv 0) rfl) (pv 4) (fun _ _ => rfl)))) (pss_one (ps_set (i := 3) sc_Drawn_probability_of.nd rfl (by first | exact Or.inl rfl | exact Or.inr rfl) (pe_op op_mulW (pv 3) (SB.kFld (K := K) rfl (pv 0) rfl)))))) (pss_one (ps_ret (SB.cal c_fraction hr (by decide) rfl (pa_cons (pv 2) (pa_cons (pv 3) pa_nil)))))))), ?_⟩)
  obtain ⟨v, wv, t, g, wd, rfl, vc, vg, ⟨a, dx, c, ws, rfl, ha, hc, _, hw⟩, ⟨wa, rfl, hwa⟩, lw, let_, q⟩ := h
  refine ⟨_, rfl, wa, rfl, ⟨_, hwa⟩, ?_⟩
  refine for_tup (K := K) (a := wa) (xs := wd.map intT) (fun j σ H' => ∃ o, σ = [some (.ref a), some (.ref wa), some (intT (wordAt g wd j)), some (intT (g.2 ^ j)), o] ∧ H' = H) ⟨none, rfl, rfl⟩ (fun j σ H' _ ⟨_, _, e⟩ => e ▸ hwa) ?_ ?_
  · rintro j x σ H' hx ⟨o, rfl, rfl⟩
    obtain ⟨z, hz, rfl⟩ := get_map hx
    have l2 : z < 2 := let_ _ (List.mem_of_getElem? hz)
    have lj : j ≤ 9 := by
      have := (List.getElem?_eq_some_iff.mp hz).1
      omega
    have w6 := wgt_le vg z
    refine ⟨_, rfl, _, rfl, a, T.Drawn, _, _, _, rfl, ha, T.clDrawn, T.nDrawn_weights, lkDrawn_weights, _, rfl, ws, _, _, _, rfl, rfl, hw, wgt_at l2, _, _, rfl, rfl, wide_nat (to60 (wordAt_lt vg lw j) (by decide)) (by omega), _, rfl, _, rfl, a, T.Drawn, _, _, _, rfl, ha, T.clDrawn, T.nDrawn_below, lkDrawn_below, _, _, rfl, rfl, wide_nat (to60 (six_pow j lj _ vg.le) (by decide)) (by have := vg.le; omega), some (intT z), ?_, rfl⟩
    rw [wordAt_succ hz, Nat.pow_succ, intT_mul, intT_mul]
    rfl
  · rintro σ H' ⟨o, rfl, rfl⟩
    rw [List.length_map]
    have e := SS.wordProb_eq vg wd
    have e2 : wordAt g wd wd.length = (wd.map (SS.wgt g)).foldl (· * ·) 1 := by
      unfold wordAt
      rw [List.take_length]
    rw [e2]
    refine ⟨_, rfl, _, rfl, _, _, rfl, Nat.pow_pos (by have := vg.lt; omega), two_pow_lt (Nat.lt_of_lt_of_le (six_pow _ (by omega) _ vg.le) (by exact Nat.pow_le_pow_right (by decide) (by decide))), fun H2 v s2 f2 => ?_⟩
    rw [← e] at f2
    exact q H2 v s2 f2
abbrev s_Drawn_state_behind : Stmt := inClass (topS 16) 4
theorem sc_Drawn_state_behind : FnScope ["self", "start", "word", "letter"] ["self", "start", "word"] (defScope s_Drawn_state_behind) := SB.sc_by (by decide +kernel)
theorem len_Drawn_state_behind {T : TX K mg} : ∀ vs H Q E, sp_Drawn_state_behind T vs H Q E → vs.length = (["self", "start", "word"] : List Str).length := by
  rintro _ H Q E ⟨_, _, _, _, _, _, rfl, _⟩
  rfl
theorem ok_Drawn_state_behind (T : TX K mg)   {f : Addr} {fd : FuncData} (F : Fun K "state_behind" "Drawn.state_behind" s_Drawn_state_behind f fd) : FnOk P w K mg base CX0 1 f fd ["self", "start", "word"] (sp_Drawn_state_behind T) := by
  refine F.ok sc_Drawn_state_behind len_Drawn_state_behind (fun cdv A outer s H vs Q E hr h => ⟨_, (pss_cons (ps_for (by first | exact PassesOwn.never | exact passes_of rfl) rfl (pi_tup (pv 2)) (pg_name (i := 3) sc_Drawn_state_behind.nd rfl (by first | exact Or.inl rfl | exact Or.inr rfl)) (pss_one (ps_set (i := 1) sc_Drawn_state_behind.nd rfl (by first | exact Or.inl rfl | exact Or.inr rfl) (pe_ix (SB.kIxL (K := K) rfl) (pe_ix (SB.kIxL (K := K) rfl) (SB.kFld (K := K) rfl (pv 0) rfl) (pv 1) (fun _ _ => rfl)) (pv 3) (fun _ _ => rfl))))) (pss_one (ps_ret (pv 1)))), ?_⟩)
  obtain ⟨v, wv, t, g, s0, wd, rfl, vc, ⟨a, dx, c, ws, rfl, ha, hc, _, hw⟩, hs, ⟨wa, rfl, hwa⟩, lw, let_, q⟩ := h
  obtain ⟨ca, cvs, rfl, _, hcl, hlen, hget⟩ := hc.get vc
  refine ⟨_, rfl, wa, rfl, ⟨_, hwa⟩, ?_⟩
  refine for_tup (K := K) (a := wa) (xs := wd.map intT) (fun j σ H' => ∃ o, σ = [some (.ref a), some (intT (endState t s0 (wd.take j))), some (.ref wa), o] ∧ H' = H) ⟨none, rfl, rfl⟩ (fun j σ H' _ ⟨_, _, e⟩ => e ▸ hwa) ?_ ?_
  · rintro j x σ H' hx ⟨o, rfl, rfl⟩
    obtain ⟨z, hz, rfl⟩ := get_map hx
    have hl := SS.endState_lt vc (wd.take j) s0 hs
    obtain ⟨b, hb, _, hq⟩ := hget _ hl
    have l2 : z < 2 := let_ _ (List.mem_of_getElem? hz)
    have e5 : target t (endState t s0 (wd.take j)) z = endState t s0 (wd.take (j + 1)) := by
      rw [List.take_add_one, hz]
      unfold endState
      rw [List.foldl_append]
      rfl
    refine ⟨_, rfl, a, T.Drawn, _, _, _, rfl, ha, T.clDrawn, T.nDrawn_chain, lkDrawn_chain, _, rfl, ca, _, _, _, rfl, rfl, hcl, atI_nat hb, _, rfl, b, _, _, _, rfl, rfl, hq, atI_nat (two_at l2), some (intT z), ?_, rfl⟩
    rw [← e5]
    have : z = 0 ∨ z = 1 := by omega
    rcases this with h | h <;> subst h <;> rfl
  · rintro σ H' ⟨o, rfl, rfl⟩
    rw [List.length_map, List.take_length]
    exact ⟨_, rfl, q⟩
theorem addAt_get {new : List Nat} {i v : Nat} (h : i < new.length) : ((new.map intT).set i (intT (new.getD i 0 + v))) = (SS.addAt new i v).map intT := by
  unfold SS.addAt
  rw [List.map_set]
theorem getD_map {new : List Nat} {i : Nat} (h : i < new.length) : (new.map intT)[i]? = some (intT (new.getD i 0)) := by
  rw [List.getElem?_map, List.getElem?_eq_getElem h, SS.getD_at h]
  rfl
theorem ixN_nat {n i : Nat} (h : i < n) : ixN n ((i : Nat) : Int) = some i := by
  unfold ixN
  rw [if_pos (Int.natCast_nonneg i), if_pos (by omega)]
  rfl
theorem tgt_at {t : Chain} {s l : Nat} (h : l < 2) : atI [intT (target t s 0), intT (target t s 1)] ((l : Nat) : Int) = some (intT (target t s l)) := by
  match l, h with
  | 0, _ => rfl
  | 1, _ => rfl
def curr (t : Chain) (g : Bias) (i r : Nat) (S : List Nat) : Nat → List Nat
  | 0 => S
  | j + 1 => SS.addAt (curr t g i r S j) (target t i j) (r * SS.wgt g j)
theorem intT_addmul (a b c : Nat) : intT (a + b * c) = V.int (((a : Nat) : Int) + ((b : Nat) : Int) * ((c : Nat) : Int)) := by rw [intT, Int.natCast_add, Int.natCast_mul]
abbrev s_Drawn_distribution : Stmt := inClass (topS 16) 2
theorem sc_Drawn_distribution : FnScope ["self", "start", "steps", "rows", "below", "turn", "new", "state", "own", "letter"] ["self", "start", "steps"] (defScope s_Drawn_distribution) := SB.sc_by (by decide +kernel)
theorem len_Drawn_distribution {T : TX K mg} : ∀ vs H Q E, sp_Drawn_distribution T vs H Q E → vs.length = (["self", "start", "steps"] : List Str).length := by
  rintro _ H Q E ⟨_, _, _, _, _, rfl, _⟩
  rfl
theorem ok_Drawn_distribution (T : TX K mg) (c_fraction : SB.Cal P w K mg base 2 "fraction" (sp_fraction T))  {f : Addr} {fd : FuncData} (F : Fun K "distribution" "Drawn.distribution" s_Drawn_distribution f fd) : FnOk P w K mg base CX0 3 f fd ["self", "start", "steps"] (sp_Drawn_distribution T) := by
  refine F.ok sc_Drawn_distribution len_Drawn_distribution (fun cdv A outer s H vs Q E hr h => ⟨_, (pss_cons (ps_setLc (i := 3) (own := [("state", 7)]) (g := (gName 7)) (tt := tYes) (by rfl) sc_Drawn_distribution.nd rfl rfl (sw_true rfl rfl rfl (by decide +kernel)) (pi_range1 (by rfl) T.b_range (pa_cons (pe_callB (SB.kLen (K := K) rfl) (by rfl) T.b_len PySem.boot_len (pa_cons (SB.kFld (K := K) rfl (pv 0) rfl) pa_nil)) pa_nil)) (blkOk_by (own := [("state", 7)]) (N := ["self", "start", "steps", "rows", "below", "turn", "new", "state", "own", "letter"]) (sc := (defScope s_Drawn_distribution)) (by decide +kernel)) (fun _ _ _ _ _ => (pg_name (i := 7) sc_Drawn_distribution.nd rfl (by first | exact Or.inl rfl | exact Or.inr rfl))) (fun _ _ _ _ _ => pts_nil) (fun _ _ _ _ _ => (pe_ifExp (pt_cmpR op_eq (pv 7) (pv 1) (nomark _)) pe_int pe_int))) (pss_cons (ps_set (i := 4) sc_Drawn_distribution.nd rfl (by first | exact Or.inl rfl | exact Or.inr rfl) pe_int) (pss_cons (ps_for (by first | exact PassesOwn.never | exact passes_of rfl) rfl (pi_range1 (by rfl) T.b_range (pa_cons (pv 2) pa_nil)) (pg_name (i := 5) sc_Drawn_distribution.nd rfl (by first | exact Or.inl rfl | exact Or.inr rfl)) (pss_cons (ps_set (i := 6) sc_Drawn_distribution.nd rfl (by first | exact Or.inl rfl | exact Or.inr rfl) (pe_op op_rep (pe_lst (pa_cons pe_int pa_nil)) (pe_callB (SB.kLen (K := K) rfl) (by rfl) T.b_len PySem.boot_len (pa_cons (pv 3) pa_nil)))) (pss_cons (ps_for (by first | exact PassesOwn.never | exact passes_of rfl) rfl (pi_enum (by rfl) T.b_enumerate (pa_cons (pv 3) pa_nil)) (pg_tup (by rfl) (pgs_cons (pg_name (i := 7) sc_Drawn_distribution.nd rfl (by first | exact Or.inl rfl | exact Or.inr rfl)) (pgs_cons (pg_name (i := 8) sc_Drawn_distribution.nd rfl (by first | exact Or.inl rfl | exact Or.inr rfl)) pgs_nil))) (pss_one (ps_for (by first | exact PassesOwn.never | exact passes_of rfl) rfl (pi_tup (pe_tup (pa_cons pe_int (pa_cons pe_int pa_nil)))) (pg_name (i := 9) sc_Drawn_distribution.nd rfl (by first | exact Or.inl rfl | exact Or.inr rfl)) (pss_one (ps_augS (pv 6) (pe_ix (SB.kIxL (K := K) rfl) (pe_ix (SB.kIxL (K := K) rfl) (SB.kFld (K := K) rfl (pv 0) rfl) (pv 7) (fun _ _ => rfl)) (pv 9) (fun _ _ => rfl)) SB.get_list (pe_op op_mulW (pv 8) (pe_ix (SB.kIxL (K := K) rfl) (SB.kFld (K := K) rfl (pv 0) rfl) (pv 9) (fun _ _ => rfl))) ip_add set_list))))) (pss_cons (ps_set (i := 3) sc_Drawn_distribution.nd rfl (by first | exact Or.inl rfl | exact Or.inr rfl) (pv 6)) (pss_one (ps_set (i := 4) sc_Drawn_distribution.nd rfl (by first | exact Or.inl rfl | exact Or.inr rfl) (pe_op op_mulW (pv 4) (SB.kFld (K := K) rfl (pv 0) rfl)))))))) (pss_one (ps_ret (pe_lc (own := [("own", 8)]) (g := (gName 8)) (tt := tYes) (by rfl) sc_Drawn_distribution.nd (SB.kPiL (K := K) rfl (pv 3)) (blkOk_by (own := [("own", 8)]) (N := ["self", "start", "steps", "rows", "below", "turn", "new", "state", "own", "letter"]) (sc := (defScope s_Drawn_distribution)) (by decide +kernel)) (fun _ _ _ _ _ => (pg_name (i := 8) sc_Drawn_distribution.nd rfl (by first | exact Or.inl rfl | exact Or.inr rfl))) (fun _ _ _ _ _ => pts_nil) (fun _ _ _ _ _ => (SB.cal c_fraction hr (by decide) rfl (pa_cons (pv 8) (pa_cons (pv 4) pa_nil)))))))))), ?_⟩)
  obtain ⟨v, t, g, p, n, rfl, vc, vg, hp, hn, ⟨a, dx, c, ws, rfl, ha, hc, _, hw⟩, q⟩ := h
  obtain ⟨ca, cvs, rfl, _, hcl, hlen, hget⟩ := hc.get vc
  have vle := vc.le
  have ecv : (((cvs.length : Nat) : Int)).toNat = t.length := by rw [hlen]; simp
  refine ⟨_, rfl, a, T.Drawn, _, _, _, rfl, ha, T.clDrawn, T.nDrawn_chain, lkDrawn_chain, ca, _, rfl, .inl hcl, _, rfl, by rw [hlen]; omega, by rw [hlen]; omega, fun D hD => ?_⟩
  rw [ecv]
  refine lc_range (lo := 0) (n := t.length) (fun i H3 => Same H H3 ∧ H3 D = some (.lst ((List.range i).map fun k => intT (if k = p then 1 else 0)))) ⟨same_upd hD, upd_same⟩ ?_ ?_
  · rintro i H3 hi ⟨s3, h3⟩
    have ei : (0 : Int) + (i : Nat) = ((i : Nat) : Int) := by omega
    rw [ei]
    have e0 : decide (intT i = intT p) = decide (i = p) := by
      rw [decide_eq_decide]
      constructor
      · intro z
        injection z with z
        omega
      · intro z
        rw [z]
    refine ⟨rfl, lcYes ⟨_, rfl, _, rfl, rfl, _, rfl, ?_⟩⟩
    have fin : ∀ x : V, x = intT (if i = p then 1 else 0) → ∃ acc, H3 D = some (.lst acc) ∧ acc.length < sizeLine ∧ (Same H (upd H3 D (.lst (acc ++ [x]))) ∧ upd H3 D (.lst (acc ++ [x])) D = some (.lst ((List.range (i + 1)).map fun k => intT (if k = p then 1 else 0)))) := by
      intro x hx
      refine ⟨_, h3, ?_, same_upd2 s3 hD, ?_⟩
      · rw [List.length_map, List.length_range]
        exact lt_line (by omega)
      · rw [upd_same, List.range_succ, List.map_append, hx]
        rfl
    refine ite2 (fun c1 => ?_) (fun c1 => ?_)
    · have c1 : i = p := of_decide_eq_true (e0 ▸ c1)
      exact fin _ (by rw [if_pos c1]; rfl)
    · have c1 : ¬ i = p := fun z => c1 (e0 ▸ decide_eq_true z)
      exact fin _ (by rw [if_neg c1]; rfl)
  rintro H1 ⟨s1, h1⟩
  have h1 : H1 D = some (.lst ((SS.rowsAt t g p 0).map intT)) := by
    rw [h1]
    show _ = some (HO.lst ((SS.initRow t p).map intT))
    unfold SS.initRow
    rw [List.map_map]
    rfl
  refine ⟨_, rfl, _, rfl, by omega, by omega, ?_⟩
  have en : (((n : Nat) : Int)).toNat = n := Int.toNat_natCast n
  rw [en]
  refine for_range (lo := 0) (n := n) (fun k σ H' => ∃ (Rr : Addr) (o5 o6 o7 o8 o9 : Option V), σ = [some (.ref a), some (intT p), some (intT n), some (.ref Rr), some (intT (g.2 ^ k)), o5, o6, o7, o8, o9] ∧ Same H H' ∧ H' Rr = some (.lst ((SS.rowsAt t g p k).map intT)))
    ⟨D, none, none, none, none, none, rfl, s1, h1⟩ ?_ ?_
  · rintro k σ H2 hk ⟨Rr, o5, o6, o7, o8, o9, rfl, s2, h2⟩
    have ei : (0 : Int) + (k : Nat) = ((k : Nat) : Int) := by omega
    rw [ei]
    have lr := SS.len_rows t g p k
    have lr2 : ((SS.rowsAt t g p k).map intT).length = t.length := by rw [List.length_map, lr]
    have elr : ((((SS.rowsAt t g p k).map intT).length : Nat) : Int).toNat = t.length := by rw [lr2]; exact Int.toNat_natCast _
    refine ⟨le_line (by show 1 ≤ _; decide), fun p0 hp0 => ⟨_, rfl, Rr, _, rfl, .inl (SqL.of (upd_keep h2 hp0)), p0, _, [.int 0], rfl, rfl, upd_same, by rw [lr2]; omega, by rw [lr2]; omega, ?_, fun N hN => ?_⟩⟩
    · rw [elr]
      exact le_line (by show 1 * _ ≤ _; omega)
    rw [elr]
    have s2p : Same H (upd H2 p0 (.lst [.int 0])) := same_upd2 s2 (s2.free hp0)
    have h2p : (upd H2 p0 (.lst [.int 0])) Rr = some (.lst ((SS.rowsAt t g p k).map intT)) := upd_keep h2 hp0
    generalize upd H2 p0 (.lst [.int 0]) = H3 at hN s2p h2p ⊢
    have e00 : (List.replicate t.length [V.int 0]).flatten = (SS.spread t g (SS.rowsAt t g p k) 0).map intT := by
      show _ = (List.replicate (SS.rowsAt t g p k).length 0).map intT
      rw [lr, List.map_replicate]
      have key : ∀ m : Nat, (List.replicate m [V.int 0]).flatten = List.replicate m (V.int 0) := by
        intro m
        induction m with
        | zero => rfl
        | succ m ih => rw [List.replicate_succ, List.flatten_cons, ih, List.replicate_succ]; rfl
      rw [key]
      rfl
    rw [e00]
    refine ⟨_, rfl, Rr, _, rfl, SqL.of (upd_keep h2p hN), ?_⟩
    refine for_it (walk_enum (K := K) (a := Rr) (xs := (SS.rowsAt t g p k).map intT)) (fun i σ H4 => ∃ o7 o8 o9 : Option V, σ = [some (.ref a), some (intT p), some (intT n), some (.ref Rr), some (intT (g.2 ^ k)), some (intT k), some (.ref N), o7, o8, o9] ∧ Same H3 H4 ∧ H4 N = some (.lst ((SS.spread t g (SS.rowsAt t g p k) i).map intT)))
      ⟨o7, o8, o9, rfl, same_upd hN, upd_same⟩ (fun i σ H4 _ ⟨_, _, _, _, s4, _⟩ => Same.seq s4 (SqL.of h2p)) ?_ ?_
    · rintro i x σ H4 H5 hi ⟨o7, o8, o9, rfl, s4, h4⟩ ⟨Tp, x1, y1, rfl, hT, rfl, e1, e2⟩
      cases e1
      have hi : i < t.length := by rw [lr2] at hi; exact hi
      have e2 : (_)[i]? = some y1 := e2
      rw [getD_map (by rw [lr]; exact hi)] at e2
      cases e2
      have s5 := same_upd2 (o := .tup [intT i, intT ((SS.rowsAt t g p k).getD i 0)]) s4 (s4.free hT)
      have h5 := upd_keep (u := .tup [intT i, intT ((SS.rowsAt t g p k).getD i 0)]) h4 hT
      refine ⟨Tp, _, rfl, SqT.of upd_same, rfl, _, _, rfl, _, _, rfl, rfl, ?_⟩
      refine ⟨le_line (by show 2 ≤ _; decide), fun P hP => ?_⟩
      refine ⟨P, rfl, ⟨_, SqT.of upd_same⟩, ?_⟩
      generalize upd H4 Tp (.tup [intT i, intT ((SS.rowsAt t g p k).getD i 0)]) = H6 at s5 h5 hP ⊢
      have s6 := same_upd2 (o := .tup [.int 0, .int 1]) s5 (s5.free hP)
      have h6 := upd_keep (u := .tup [.int 0, .int 1]) h5 hP
      have h6P : upd H6 P (.tup [.int 0, .int 1]) P = some (.tup [.int 0, .int 1]) := upd_same
      generalize upd H6 P (.tup [.int 0, .int 1]) = H7 at s6 h6 h6P ⊢
      have curs : ∀ j, curr t g i ((SS.rowsAt t g p k).getD i 0) (SS.spread t g (SS.rowsAt t g p k) i) (j + 1) = SS.addAt (curr t g i ((SS.rowsAt t g p k).getD i 0) (SS.spread t g (SS.rowsAt t g p k) i) j) (target t i j) ((SS.rowsAt t g p k).getD i 0 * SS.wgt g j) := fun j => rfl
      have curl : ∀ j, (curr t g i ((SS.rowsAt t g p k).getD i 0) (SS.spread t g (SS.rowsAt t g p k) i) j).length = t.length := by
        intro j
        induction j with
        | zero => show (SS.spread t g (SS.rowsAt t g p k) i).length = _; rw [SS.len_spread, lr]
        | succ j ih => rw [curs, SS.len_addAt, ih]
      refine for_tup (K := K) (a := P) (xs := [.int 0, .int 1]) (fun j σ H8 => ∃ o9 : Option V, σ = [some (.ref a), some (intT p), some (intT n), some (.ref Rr), some (intT (g.2 ^ k)), some (intT k), some (.ref N), some (intT i), some (intT ((SS.rowsAt t g p k).getD i 0)), o9] ∧ Same H3 H8 ∧ H8 P = some (.tup [.int 0, .int 1]) ∧ H8 N = some (.lst ((curr t g i ((SS.rowsAt t g p k).getD i 0) (SS.spread t g (SS.rowsAt t g p k) i) j).map intT)))
        ⟨o9, rfl, s6, h6P, h6⟩ (fun j σ H8 _ ⟨_, _, _, h, _⟩ => SqT.of h) ?_ ?_
      · rintro j x σ H8 hx ⟨o9, rfl, s8, h8P, h8⟩
        have hj : j < 2 := (List.getElem?_eq_some_iff.mp hx).1
        have hx : x = intT j := by
          match j, hj, hx with
          | 0, _, hx => exact (Option.some.inj hx).symm
          | 1, _, hx => exact (Option.some.inj hx).symm
        subst hx
        have s28 := s2p.trans s8
        obtain ⟨b, hb, _, hq⟩ := hget i hi
        have w6 := wgt_le vg j
        have r6 := SS.rows_le vc vg hp k i hi
        have r7 := six_pow k (by omega) _ vg.le
        have ht := vc.tgt hi j
        have nP : P ≠ N := fun e => by
          rw [e] at h8P
          rw [h8] at h8P
          cases h8P
        refine ⟨_, rfl, _, rfl, a, T.Drawn, _, _, _, rfl, (s28 _ _ ha), T.clDrawn, T.nDrawn_chain, lkDrawn_chain, _, rfl, ca, _, _, _, rfl, rfl, Same.seq s28 hcl, atI_nat hb, _, rfl, b, _, _, _, rfl, rfl, Same.seq s28 hq, tgt_at hj, N, _, _, _, rfl, rfl, SqL.of h8, getD_map (by rw [curl]; exact ht), _, rfl, _, rfl, a, T.Drawn, _, _, _, rfl, (s28 _ _ ha), T.clDrawn, T.nDrawn_weights, lkDrawn_weights, _, rfl, ws, _, _, _, rfl, rfl, Same.seq s28 hw, wgt_at hj, _, _, rfl, rfl, wide_nat (to60 (Nat.lt_of_le_of_lt r6 r7) (by decide)) (by omega), _, _, rfl, rfl, N, _, _, _, rfl, rfl, h8, ixN_nat (by rw [List.length_map, curl]; exact ht), some (intT j), rfl, same_upd2 s8 hN, (by rw [upd_ne nP]; exact h8P), ?_⟩
        rw [upd_same, curs, ← addAt_get (by rw [curl]; exact ht), intT_addmul]
      · rintro σ H8 ⟨o9, rfl, s8, h8P, h8⟩
        exact ⟨_, _, _, rfl, s8, h8⟩
    · rintro σ H4 ⟨o7, o8, o9, rfl, s4, h4⟩
      rw [lr2] at h4
      have s24 := s2p.trans s4
      refine ⟨_, rfl, _, rfl, _, rfl, a, T.Drawn, _, _, _, rfl, (s24 _ _ ha), T.clDrawn, T.nDrawn_below, lkDrawn_below, _, _, rfl, rfl, wide_nat (to60 (six_pow k (by omega) _ vg.le) (by decide)) (by have := vg.le; omega), N, some (intT k), some (.ref N), o7, o8, o9, ?_, s24, h4⟩
      rw [Nat.pow_succ, intT_mul]
      rfl
  · rintro σ H2 ⟨Rr, o5, o6, o7, o8, o9, rfl, s2, h2⟩
    refine ⟨_, rfl, Rr, rfl, ⟨_, SqL.of h2⟩, fun D2 hD2 => ?_⟩
    have lr := SS.len_rows t g p n
    refine lc_list (K := K) (a := Rr) (xs := (SS.rowsAt t g p n).map intT) (fun j H3 => Same H2 H3 ∧ Acc K H3 D2 (((SS.rowsAt t g p n).take j).map fun (x : Nat) => mkRat (x : Nat) (g.2 ^ n))) ⟨same_upd hD2, Acc.nil⟩ (fun j H3 _ ⟨s3, _⟩ => Same.seq s3 (SqL.of h2)) ?_ ?_
    · rintro j x H3 hx ⟨s3, h3⟩
      obtain ⟨z, hz, rfl⟩ := get_map hx
      refine ⟨rfl, lcYes ⟨_, rfl, _, rfl, z, g.2 ^ n, rfl, Nat.pow_pos (by have := vg.lt; omega), two_pow_lt (Nat.lt_of_lt_of_le (six_pow n hn _ vg.le) (by exact Nat.pow_le_pow_right (by decide) (by decide))), fun H4 v s4 f4 => ?_⟩⟩
      obtain ⟨acc, a1, a2, a3⟩ := (h3.same s4).snoc f4 (by rw [List.length_map, List.length_take]; omega)
      refine ⟨acc, a1, a2, same_upd2 (s3.trans s4) hD2, ?_⟩
      rw [take_map_succ hz]
      exact a3
    · rintro H3 ⟨s3, h3⟩
      rw [List.length_map, List.take_length, ← dist_list vc vg] at h3
      exact q H3 _ (s2.trans s3) (h3.frs (s2.free hD2))

end
end SP

/-! ## W7 -/
set_option maxHeartbeats 4000000
namespace SP
open PySem PySem.Spec PyProof.Rows L2 SB
open SS (VC VG R Sz RateOk treeW ratesOf leadsTo)
open R7244e.Spec (reachable recurrentStates hasOneClass canMeet distribution wordProb endState coverage separation unstopped stopProbs survival entry target)
section
variable {P : Program} {w : World} {base : Heap}
variable {K : PySem.W.Frag} {mg : Str → Option Value}

theorem num_pos_mp {x : Rat} (h : 0 < x.num) : 0 < x := by
  rcases Rat.lt_iff 0 x with z
  simpa using z.mpr (by simpa using h)
theorem chg_free {H H' : Hp} {cd b : Addr} {o : HO} (s : Chg (· = cd) H H') (h : H' cd = some o) (n : H' b = none) : H b = none := by
  cases e : H b with
  | none => rfl
  | some u =>
    have ne : b ≠ cd := fun z => by subst z; rw [h] at n; cases n
    rw [s _ _ e ne] at n
    cases n
theorem RuAt.free {T : TX K mg} {I : Addr → Prop} {H H' : Hp} {v : V} {cd : Addr} {R : Ru} {b : Addr} (h : RuAt T I H' v cd R) (s : Chg (· = cd) H H') (n : H' b = none) : H b = none := by
  obtain ⟨kvs, hc⟩ := h.cd
  exact chg_free s hc n
theorem DrAt.offx {T : TX K mg} {I : Addr → Prop} {H H' : Hp} {v : V} {x : Addr} {t : Chain} {g : Bias} (f : Off (· = x) I H) (n : ∀ a, v = .ref a → a ≠ x) (s : Chg (· = x) H H') (h : DrAt T I H v t g) : DrAt T I H' v t g := by
  obtain ⟨a, dx, c, ws, e, ha, hc, hi, hw⟩ := h
  exact ⟨a, dx, c, ws, e, s _ _ ha (n a e), hc.off f s, hi, f.sqL s hi hw⟩
theorem valV_mem {κ : Type} [DecidableEq κ] {kvs : List (κ × V)} {k : κ} {v : V} (h : valV kvs k = some v) : (k, v) ∈ kvs := by
  unfold valV at h
  obtain ⟨p, hp, rfl⟩ := Option.map_eq_some_iff.mp h
  have e := List.find?_some hp
  have e : p.1 = k := of_decide_eq_true e
  have m := List.mem_of_find?_eq_some hp
  rw [← e]
  exact m
theorem valV_none {κ : Type} [DecidableEq κ] {kvs : List (κ × V)} {k : κ} (h : valV kvs k = none) : k ∉ kvs.map (·.1) := by
  intro m
  obtain ⟨p, hp, rfl⟩ := List.mem_map.mp m
  unfold valV at h
  rw [Option.map_eq_none_iff] at h
  have := List.find?_eq_none.mp h p hp
  simp at this
theorem CovOk.len {R : Ru} {H : Hp} {kvs : List (Key × V)} (h : CovOk K R H kvs) : kvs.length ≤ 9 := by
  have e : (kvs.map (·.1)).length ≤ ((List.range 9).map fun (n : Nat) => (Sum.inl ((n : Nat) : Int) : Key)).length := SS.nodup_le h.nd fun x hx => by
    obtain ⟨kv, hk, rfl⟩ := List.mem_map.mp hx
    obtain ⟨n, hn, e, _⟩ := h.ok kv hk
    exact List.mem_map.mpr ⟨n, List.mem_range.mpr (by omega), e.symm⟩
  simpa using e
def BestAt (K : PySem.W.Frag) (H : Hp) (b : V) : Option Rat → Prop
  | none => b = .non
  | some x => FrAt K H b x
theorem BestAt.same {H H' : Hp} {b : V} {o : Option Rat} (s : Same H H') (h : BestAt K H b o) : BestAt K H' b o := by
  cases o with
  | none => exact h
  | some x => exact FrAt.same s h
theorem entry_get {l : List Rat} {j : Nat} {x : Rat} (h : l[j]? = some x) : entry l j = x := by
  unfold entry
  rw [List.getD_eq_getElem?_getD, h]
  rfl
theorem covAt_sz {x y : List Rat} : ∀ j, (∀ q, q < j → Sz 24 (entry x q)) → (∀ q, q < j → Sz 10 (entry y q)) → ∀ m, SS.covAt x y j = some m → Sz 34 m
  | 0, _, _, m, h => by cases h
  | j + 1, hx, hy, m, h => by
    have ih := covAt_sz (x := x) (y := y) j (fun q hq => hx q (by omega)) (fun q hq => hy q (by omega))
    have h : SS.covStep (SS.covAt x y j) (entry x j) (entry y j) = some m := h
    unfold SS.covStep at h
    by_cases c : 0 < (entry y j).num
    · rw [if_pos c] at h
      have s := SS.Sz_div (num_pos_mp c) (hx j (by omega)) (hy j (by omega))
      cases e : SS.covAt x y j with
      | none => rw [e] at h; cases h; exact s
      | some z =>
        rw [e] at h
        simp only at h
        split at h
        · cases h; exact s
        · cases h; exact ih _ e
    · rw [if_neg c] at h
      exact ih m h
theorem covI_nat (R : Ru) (n : Nat) : covI R ((n : Nat) : Int) = coverage R.t R.g R.y R.p n := by
  unfold covI
  rw [if_neg (by omega), Int.toNat_natCast]
theorem covI_pred (R : Ru) (n : Nat) : covI R (((n : Nat) : Int) - 1) = R7244e.Spec.coverageBefore R.t R.g R.y R.p n := by
  cases n with
  | zero => rfl
  | succ n =>
    have e : ((n + 1 : Nat) : Int) - 1 = ((n : Nat) : Int) := by omega
    rw [e, covI_nat]
    rfl
theorem RuAt.ok2 {T : TX K mg} {I : Addr → Prop} {H H' : Hp} {v : V} {cd : Addr} {R : Ru} {kvs : List (Key × V)} (h : RuAt T I H v cd R) (s : Chg (· = cd) H H') (hc : H' cd = some (.dK kvs)) (ok : CovOk K R H' kvs) : RuAt T I H' v cd R := by
  obtain ⟨a, dx, d, rs, kvs0, e, ha, hd, hr, hc0, ok0⟩ := h
  have f := offD (T := T) (I := I) hc0
  exact ⟨a, dx, d, rs, kvs, e, s _ _ ha (fun z => by subst z; rw [ha] at hc0; cases hc0), hd.off f s, hr.off f.toOff s, hc, ok⟩
abbrev s_Rule___init__ : Stmt := inClass (topS 17) 0
theorem sc_Rule___init__ : FnScope ["self", "drawn", "start"] ["self", "drawn", "start"] (defScope s_Rule___init__) := SB.sc_by (by decide +kernel)
theorem len_Rule___init__ {T : TX K mg} : ∀ vs H Q E, sp_Rule___init__ T vs H Q E → vs.length = (["self", "drawn", "start"] : List Str).length := by
  rintro _ H Q E ⟨_, _, _, _, _, _, _, rfl, _⟩
  rfl
theorem ok_Rule___init__ (T : TX K mg) (m_Drawn_stationary : SB.Met P w K mg base 3 T.Drawn "stationary" (sp_Drawn_stationary T))  {f : Addr} {fd : FuncData} (F : Fun K "__init__" "Rule.__init__" s_Rule___init__ f fd) : FnOk P w K mg base CX0 4 f fd ["self", "drawn", "start"] (sp_Rule___init__ T) := by
  refine F.ok sc_Rule___init__ len_Rule___init__ (fun cdv A outer s H vs Q E hr h => ⟨_, (pss_cons (ps_fld (pv 0) (pv 1) rfl) (pss_cons (ps_fld (pv 0) (pv 2) rfl) (pss_cons (ps_fld (pv 0) (SB.met0 m_Drawn_stationary hr (by decide) (pv 1)) rfl) (pss_one (ps_fld (pv 0) pe_dnewK rfl))))), ?_⟩)
  obtain ⟨x, dx, d, I, t, g, p, rfl, hx, vr, hd, q⟩ := h
  have ox := offI (I := I) hx
  have nd : ∀ a, d = .ref a → a ≠ x := by
    intro a e z
    obtain ⟨a2, dx2, c, ws, e2, ha, _⟩ := hd
    rw [e] at e2
    cases e2
    rw [z, hx] at ha
    have := congrArg (fun o => match o with | some (HO.ins _ _ fs) => fs.length | _ => 0) ha
    simp at this
  refine ⟨_, rfl, _, rfl, x, T.Rule, dx, [], rfl, hx, T.clRule, T.nRule_drawn, by decide, ?_⟩
  rw [pnRule_drawn]
  refine ⟨_, rfl, _, rfl, x, T.Rule, dx, _, rfl, upd_same, T.clRule, T.nRule_start, (show 1 < 1000 by decide), ?_⟩
  rw [pnRule_start]
  have c2 : Chg (· = x) H (upd (upd H x (.ins T.Rule dx [("drawn", d)])) x (.ins T.Rule dx [("drawn", d), ("start", intT p)])) := chg_upd chg1 (.inr rfl)
  have h2x : upd (upd H x (.ins T.Rule dx [("drawn", d)])) x (.ins T.Rule dx [("drawn", d), ("start", intT p)]) x = some (.ins T.Rule dx [("drawn", d), ("start", intT p)]) := upd_same
  generalize upd (upd H x (.ins T.Rule dx [("drawn", d)])) x (.ins T.Rule dx [("drawn", d), ("start", intT p)]) = H2 at c2 h2x ⊢
  have hd2 := hd.offx ox nd c2
  obtain ⟨da, ddx, dc, dws, rfl, hda, hdc, hdi, hdw⟩ := hd2
  refine ⟨_, rfl, da, _, _, rfl, hda, noDrawn_stationary, .ref da, t, g, rfl, vr.v, vr.g, vr.r, ⟨da, ddx, dc, dws, rfl, hda, hdc.mono (fun _ _ => trivial), trivial, hdw⟩, fun H3 rv s3 fr => ⟨_, rfl, x, T.Rule, dx, _, rfl, s3 _ _ h2x, T.clRule, T.nRule_rates, (show 2 < 1000 by decide), ?_⟩⟩
  rw [pnRule_rates]
  intro cd hcd
  have n3 : H3 cd = none := free_upd hcd
  have n2 : H2 cd = none := s3.free n3
  have n1 : H cd = none := by
    cases e : H cd with
    | none => rfl
    | some o =>
      have ne : cd ≠ x := fun z => by rw [z, h2x] at n2; cases n2
      rw [c2 _ _ e ne] at n2
      cases n2
  refine ⟨_, rfl, x, T.Rule, dx, _, rfl, upd_keep upd_same hcd, T.clRule, T.nRule_coverages, (show 3 < 1000 by decide), ?_⟩
  rw [pnRule_coverages]
  have h3x := s3 _ _ h2x
  have c3 : Chg (· = x) H3 (upd (upd (upd H3 x (.ins T.Rule dx [("drawn", .ref da), ("start", intT p), ("rates", rv)])) cd (.dK [])) x (.ins T.Rule dx [("drawn", .ref da), ("start", intT p), ("rates", rv), ("coverages", .ref cd)])) := chg_upd (chg_upd chg1 (.inl n3)) (.inr rfl)
  have ncx : cd ≠ x := fun z => by rw [z, h3x] at n3; cases n3
  refine q _ cd (c2.trans ((Chg.of_same s3).trans c3)) n1 ⟨x, dx, .ref da, rv, [], rfl, upd_same, ?_, ?_, ?_, ⟨fun _ h => by simp at h, List.nodup_nil⟩⟩
  · have hd3 : DrAt T I H3 (.ref da) t g := ⟨da, ddx, dc, dws, rfl, s3 _ _ hda, hdc.same s3, hdi, Same.seq s3 hdw⟩
    exact (hd3.offx (offI h3x) (fun a e => nd a e) c3).mono (fun b h => .inl h)
  · refine (fr.off (offI h3x) c3).mono (fun b hb => .inr ⟨?_, ?_⟩)
    · cases e : H b with
      | none => rfl
      | some o =>
        have ne : b ≠ x := fun z => by rw [z] at hb; rw [hb.1] at h2x; cases h2x
        have hb := hb.1
        rw [c2 _ _ e ne] at hb
        cases hb
    · intro z
      exact hb.2 (free_upd (free_upd (free_upd z)))
  · rw [upd_ne ncx, upd_same]
abbrev s_Rule_coverage : Stmt := inClass (topS 17) 1
theorem sc_Rule_coverage : FnScope ["self", "steps", "best", "own", "rate"] ["self", "steps"] (defScope s_Rule_coverage) := SB.sc_by (by decide +kernel)
theorem len_Rule_coverage {T : TX K mg} : ∀ vs H Q E, sp_Rule_coverage T vs H Q E → vs.length = (["self", "steps"] : List Str).length := by
  rintro _ H Q E ⟨_, _, _, _, _, rfl, _⟩
  rfl
theorem ok_Rule_coverage (T : TX K mg) (c_is_below : SB.Cal P w K mg base 1 "is_below" (sp_is_below T)) (c_over : SB.Cal P w K mg base 3 "over" (sp_over T)) (m_Drawn_distribution : SB.Met P w K mg base 3 T.Drawn "distribution" (sp_Drawn_distribution T))  {f : Addr} {fd : FuncData} (F : Fun K "coverage" "Rule.coverage" s_Rule_coverage f fd) : FnOk P w K mg base CX0 4 f fd ["self", "steps"] (sp_Rule_coverage T) := by
  refine F.ok sc_Rule_coverage len_Rule_coverage (fun cdv A outer s H vs Q E hr h => ⟨_, (pss_cons (ps_if (pt_cmpR op_lt (pv 1) pe_int (nomark _)) (pss_one (ps_ret (pe_glob (v := .ref T.ZERO) rfl T.gZERO rfl))) pss_nil) (pss_cons (ps_if (pt_cmp (pc_dnotin (hu_of hr) (pv 1) (SB.kFld (K := K) rfl (pv 0) rfl)) rfl) (pss_cons (ps_set (i := 2) sc_Rule_coverage.nd rfl (by first | exact Or.inl rfl | exact Or.inr rfl) pe_non) (pss_cons (ps_for (by first | exact PassesOwn.never | exact passes_of rfl) rfl (pi_zip (by rfl) T.b_zip (pa_cons (SB.met m_Drawn_distribution hr (by decide) (SB.kFld (K := K) rfl (pv 0) rfl) (pa_cons (SB.kFld (K := K) rfl (pv 0) rfl) (pa_cons (pv 1) pa_nil))) (pa_cons (SB.kFld (K := K) rfl (pv 0) rfl) pa_nil))) (pg_tup (by rfl) (pgs_cons (pg_name (i := 3) sc_Rule_coverage.nd rfl (by first | exact Or.inl rfl | exact Or.inr rfl)) (pgs_cons (pg_name (i := 4) sc_Rule_coverage.nd rfl (by first | exact Or.inl rfl | exact Or.inr rfl)) pgs_nil))) (pss_one (ps_if (PW.pt (pw_and (pt_cmpR op_gt (pe_ix (SB.kIxT (K := K) rfl) (pv 4) pe_int (fun _ _ => rfl)) pe_int (nomark _)) (pw_and1 (PW.pt (pw_or (pt_cmpR op_isN (pv 2) pe_non (nomark _)) (pw_or1 (pt_val (SB.cal c_is_below hr (by decide) rfl (pa_cons (SB.cal c_over hr (by decide) rfl (pa_cons (pv 3) (pa_cons (pv 4) pa_nil))) (pa_cons (pv 2) pa_nil)))))))))) (pss_one (ps_set (i := 2) sc_Rule_coverage.nd rfl (by first | exact Or.inl rfl | exact Or.inr rfl) (SB.cal c_over hr (by decide) rfl (pa_cons (pv 3) (pa_cons (pv 4) pa_nil))))) pss_nil))) (pss_one (ps_dput (hu_of hr) (SB.kFld (K := K) rfl (pv 0) rfl) (pv 1) (pv 2) rfl)))) pss_nil) (pss_one (ps_ret (pe_dget (hu_of hr) (SB.kFld (K := K) rfl (pv 0) rfl) (pv 1) (fun _ _ => rfl)))))), ?_⟩)
  obtain ⟨v, cd, R, i, I, rfl, vr, hi, hR, q⟩ := h
  obtain ⟨a, dx, d, rs, kvs, rfl, ha, hd, hr2, hc, ok⟩ := id hR
  refine ⟨_, rfl, _, _, rfl, rfl, _, rfl, ?_⟩
  refine ite2 (fun c1 => ?_) (fun c1 => ?_)
  · have c1 : i < 0 := of_decide_eq_true c1
    refine q H _ (Chg.refl H) hR ?_
    unfold covI
    rw [if_pos c1]
    exact ⟨T.ZERO, rfl, T.hZERO H⟩
  have c1 : ¬ i < 0 := fun z => c1 (decide_eq_true z)
  obtain ⟨n, rfl⟩ : ∃ n : Nat, i = ((n : Nat) : Int) := ⟨i.toNat, by omega⟩
  rw [covI_nat] at q
  have hn : n ≤ 8 := by omega
  have dg : DGet H cd (.int ((n : Nat) : Int)) (valV kvs (.inl ((n : Nat) : Int))) := DGet.k (k := .inl ((n : Nat) : Int)) hc
  refine ⟨_, rfl, _, rfl, a, T.Rule, _, _, _, rfl, ha, T.clRule, T.nRule_coverages, lkRule_coverages, cd, _, rfl, dg, _, rfl, ?_⟩
  cases ev : valV kvs (.inl ((n : Nat) : Int)) with
  | some v =>
    refine iteF ?_
    rw [ev] at dg
    obtain ⟨n2, _, e2, fr⟩ := ok.ok _ (valV_mem ev)
    have e2 : ((n : Nat) : Int) = ((n2 : Nat) : Int) := Sum.inl.inj e2
    have e2 : n = n2 := by omega
    subst e2
    exact ⟨_, rfl, a, T.Rule, _, _, _, rfl, ha, T.clRule, T.nRule_coverages, lkRule_coverages, _, rfl, cd, v, rfl, dg, q H v (Chg.refl H) hR fr⟩
  | none =>
    refine iteT ?_
    obtain ⟨da, ddx, dc, dws, rfl, hda, _⟩ := id hd
    refine ⟨_, rfl, a, T.Rule, _, _, _, rfl, ha, T.clRule, T.nRule_drawn, lkRule_drawn, da, _, _, rfl, hda, noDrawn_distribution, _, rfl, a, T.Rule, _, _, _, rfl, ha, T.clRule, T.nRule_start, lkRule_start, _, rfl, .ref da, R.t, R.g, R.p, n, rfl, vr.v, vr.g, vr.p, by omega, hd.any, fun H1 r s1 fr => ?_⟩
    obtain ⟨xa, xs, rfl, xi, xq, xp⟩ := fr
    obtain ⟨ya, ys, rfl, yi, yq, yp⟩ := id hr2
    have ha1 := s1 _ _ ha
    have lx : xs.length = R.t.length := (Paired.length xp).trans (SS.len_dist _ _ _ _)
    have ly : ys.length = R.t.length := (Paired.length yp).trans vr.r.len
    have szx : ∀ q, q < R.t.length → Sz 24 (entry (distribution R.t R.g R.p n) q) := fun q hq => SS.dist_sz vr.v vr.g vr.p n (by omega) hq
    have szy : ∀ q, q < R.t.length → Sz 10 (entry R.y q) := fun q hq => vr.r.sz hq
    refine ⟨_, rfl, a, T.Rule, _, _, _, rfl, ha1, T.clRule, T.nRule_rates, lkRule_rates, xa, ya, xs, ys, rfl, xq, Same.seq s1 yq, ?_⟩
    refine for_it (walk_zip (n := R.t.length) (xs := xs) (ys := ys) (by omega)) (fun j σ H3 => ∃ (b : V) (o3 o4 : Option V), σ = [some (.ref a), some (.int ((n : Nat) : Int)), some b, o3, o4] ∧ Same H1 H3 ∧ BestAt K H3 b (SS.covAt (distribution R.t R.g R.p n) R.y j))
      ⟨.non, none, none, rfl, Same.refl H1, rfl⟩ (fun j σ H3 _ ⟨_, _, _, _, s3, _⟩ => ⟨Same.seq s3 xq, Same.seq (s1.trans s3) yq⟩) ?_ ?_
    · rintro j x σ H3 H4 hj ⟨b, o3, o4, rfl, s3, hb⟩ ⟨Tp, x1, y1, rfl, hT, rfl, e1, e2⟩
      obtain ⟨X, eX, fX⟩ := Paired.at xp e1
      obtain ⟨Y, eY, fY⟩ := Paired.at yp e2
      have eX := entry_get eX
      have eY := entry_get eY
      have s4 := same_upd2 (o := .tup [x1, y1]) s3 (s3.free hT)
      have hb4 := hb.same (same_upd (o := .tup [x1, y1]) hT)
      have hTp : upd H3 Tp (.tup [x1, y1]) Tp = some (.tup [x1, y1]) := upd_same
      generalize upd H3 Tp (.tup [x1, y1]) = H4 at s4 hb4 hTp ⊢
      have fX := fX.same s4
      have fY := (fY.same s1).same s4
      obtain ⟨yb, rfl, hyb⟩ := id fY
      have sX : Sz 24 X := eX ▸ szx j hj
      have sY : Sz 10 Y := eY ▸ szy j hj
      have stp : SS.covAt (distribution R.t R.g R.p n) R.y (j + 1) = SS.covStep (SS.covAt (distribution R.t R.g R.p n) R.y j) X Y := by rw [← eX, ← eY]; rfl
      unfold SS.covStep at stp
      refine ⟨Tp, _, rfl, SqT.of hTp, rfl, _, _, rfl, _, _, rfl, rfl, _, rfl, yb, _, 0, _, rfl, rfl, hyb, rfl, _, _, rfl, rfl, _, rfl, ?_⟩
      refine ite2 (fun c2 => ?_) (fun c2 => ?_)
      · have c2 : 0 < Y.num := of_decide_eq_true c2
        have yp0 : 0 < Y := num_pos_mp c2
        rw [if_pos c2] at stp
        refine ⟨_, rfl, rfl, _, rfl, ?_⟩
        cases em : SS.covAt (distribution R.t R.g R.p n) R.y j with
        | none =>
          rw [em] at stp hb4
          have hb4 : b = .non := hb4
          subst hb4
          refine ite2 (fun _ => ?_) (fun c3 => absurd (decide_eq_true rfl) c3)
          refine iteT ?_
          refine ⟨_, rfl, _, rfl, x1, .ref yb, X, Y, rfl, fX, fY, sX.mono (by decide), sY.mono (by decide), yp0, fun H5 r s5 f5 => ⟨r, some x1, some (.ref yb), rfl, s4.trans s5, ?_⟩⟩
          rw [stp]
          exact f5
        | some m =>
          rw [em] at stp hb4
          have hb4 : FrAt K H4 b m := hb4
          have sm := covAt_sz (x := distribution R.t R.g R.p n) (y := R.y) j (fun q hq => szx q (by omega)) (fun q hq => szy q (by omega)) m em
          refine ite2 (fun c3 => ?_) (fun _ => ?_)
          · have c3 := of_decide_eq_true c3
            obtain ⟨_, e, _⟩ := hb4
            rw [e] at c3
            cases c3
          refine ⟨_, rfl, _, rfl, x1, .ref yb, X, Y, rfl, fX, fY, sX.mono (by decide), sY.mono (by decide), yp0, fun H5 r s5 f5 => ⟨_, rfl, r, b, X / Y, m, rfl, f5, hb4.same s5, (SS.Sz_div yp0 sX sY).mono (by decide), sm.mono (by decide), _, rfl, ?_⟩⟩
          refine ite2 (fun c4 => ?_) (fun c4 => ?_)
          · have c4 : X / Y < m := of_decide_eq_true c4
            simp only [if_pos c4] at stp
            refine ⟨_, rfl, _, rfl, x1, .ref yb, X, Y, rfl, fX.same s5, fY.same s5, sX.mono (by decide), sY.mono (by decide), yp0, fun H6 r2 s6 f6 => ⟨r2, some x1, some (.ref yb), rfl, (s4.trans s5).trans s6, ?_⟩⟩
            rw [stp]
            exact f6
          · have c4 : ¬ X / Y < m := fun z => c4 (decide_eq_true z)
            simp only [if_neg c4] at stp
            refine ⟨b, some x1, some (.ref yb), rfl, s4.trans s5, ?_⟩
            rw [stp]
            exact hb4.same s5
      · have c2 : ¬ 0 < Y.num := fun z => c2 (decide_eq_true z)
        rw [if_neg c2] at stp
        refine iteF ⟨b, some x1, some (.ref yb), rfl, s4, ?_⟩
        rw [stp]
        exact hb4
    · rintro σ H3 ⟨b, o3, o4, rfl, s3, hb⟩
      rw [SS.cov_of vr.v vr.r n] at hb
      have hb : FrAt K H3 b (coverage R.t R.g R.y R.p n) := hb
      have s13 := s1.trans s3
      have hc3 := s13 _ _ hc
      have l9 := ok.len
      have nac : a ≠ cd := fun z => by rw [z, hc] at ha; cases ha
      have hc5 : upd H3 cd (.dK (putK kvs (.inl ((n : Nat) : Int)) b)) cd = some (.dK (putK kvs (.inl ((n : Nat) : Int)) b)) := upd_same
      have c35 : Chg (· = cd) H3 (upd H3 cd (.dK (putK kvs (.inl ((n : Nat) : Int)) b))) := chg1
      have hb5 : FrAt K (upd H3 cd (.dK (putK kvs (.inl ((n : Nat) : Int)) b))) b (coverage R.t R.g R.y R.p n) := hb.off (I := Any) (offD (T := T) hc3).toOff c35
      refine ⟨_, rfl, _, rfl, a, T.Rule, _, _, _, rfl, (s13 _ _ ha), T.clRule, T.nRule_coverages, lkRule_coverages, _, rfl, cd, _, rfl, DPut.k (k := .inl ((n : Nat) : Int)) hc3 (lt_line (by omega)), ?_⟩
      generalize upd H3 cd (.dK (putK kvs (.inl ((n : Nat) : Int)) b)) = H5 at hc5 c35 hb5 ⊢
      have c05 : Chg (· = cd) H H5 := (Chg.of_same s13).trans c35
      have dg5 : DGet H5 cd (.int ((n : Nat) : Int)) (some b) := by
        have := DGet.k (k := .inl ((n : Nat) : Int)) hc5
        rw [valV_put, if_pos rfl] at this
        exact this
      have ha5 := c05 _ _ ha nac
      refine ⟨_, rfl, a, T.Rule, _, _, _, rfl, ha5, T.clRule, T.nRule_coverages, lkRule_coverages, _, rfl, cd, b, rfl, dg5, q H5 b c05 (hR.ok2 c05 hc5 ?_) hb5⟩
      rw [putK_new _ ev]
      refine ⟨fun kv hk => ?_, ?_⟩
      · rcases List.mem_append.mp hk with h | h
        · obtain ⟨n1, h1, h2, h3⟩ := ok.ok kv h
          exact ⟨n1, h1, h2, h3.off (I := Any) (offD (T := T) hc).toOff c05⟩
        · have h := List.mem_singleton.mp h
          subst h
          exact ⟨n, hn, rfl, hb5⟩
      · rw [List.map_append, List.nodup_append]
        refine ⟨ok.nd, by simp, ?_⟩
        intro x hx y hy e
        have hy : y = .inl ((n : Nat) : Int) := by simpa using hy
        rw [e, hy] at hx
        exact valV_none ev hx

end
end SP

/-! ## W8 -/
set_option maxHeartbeats 4000000
namespace SP
open PySem PySem.Spec PyProof.Rows L2 SB
open SS (VC VG R Sz RateOk treeW ratesOf leadsTo)
open R7244e.Spec (reachable recurrentStates hasOneClass canMeet distribution wordProb endState coverage separation unstopped stopProbs survival entry target)
section
variable {P : Program} {w : World} {base : Heap}
variable {K : PySem.W.Frag} {mg : Str → Option Value}

theorem RuAt.open {T : TX K mg} {I : Addr → Prop} {H : Hp} {a cd : Addr} {R : Ru} (h : RuAt T I H (.ref a) cd R) : ∃ (dx : Addr) (d rs : V) (kvs : List (Key × V)), H a = some (.ins T.Rule dx [("drawn", d), ("start", intT R.p), ("rates", rs), ("coverages", .ref cd)]) ∧ DrAt T I H d R.t R.g ∧ FrsAt K I H rs R.y ∧ H cd = some (.dK kvs) := by
  obtain ⟨a2, dx, d, rs, kvs, e, ha, hd, hr, hc, ok⟩ := h
  cases e
  exact ⟨dx, d, rs, kvs, ha, hd, hr, hc⟩
theorem take_snoc {α : Type} {l : List α} {j : Nat} {x : α} (h : l[j]? = some x) : l.take (j + 1) = l.take j ++ [x] := by
  rw [List.take_add_one, h]
  rfl
theorem get_entry {l : List Rat} {j : Nat} (h : j < l.length) : l[j]? = some (entry l j) := by
  unfold entry
  rw [SS.getD_at h, List.getElem?_eq_getElem h]
abbrev s_Rule_separation : Stmt := inClass (topS 17) 2
theorem sc_Rule_separation : FnScope ["self", "steps"] ["self", "steps"] (defScope s_Rule_separation) := SB.sc_by (by decide +kernel)
theorem len_Rule_separation {T : TX K mg} : ∀ vs H Q E, sp_Rule_separation T vs H Q E → vs.length = (["self", "steps"] : List Str).length := by
  rintro _ H Q E ⟨_, _, _, _, _, rfl, _⟩
  rfl
theorem ok_Rule_separation (T : TX K mg) (c_less : SB.Cal P w K mg base 3 "less" (sp_less T)) (m_Rule_coverage : SB.Met P w K mg base 4 T.Rule "coverage" (sp_Rule_coverage T))  {f : Addr} {fd : FuncData} (F : Fun K "separation" "Rule.separation" s_Rule_separation f fd) : FnOk P w K mg base CX0 5 f fd ["self", "steps"] (sp_Rule_separation T) := by
  refine F.ok sc_Rule_separation len_Rule_separation (fun cdv A outer s H vs Q E hr h => ⟨_, (pss_one (ps_ret (SB.cal c_less hr (by decide) rfl (pa_cons (pe_glob (v := .ref T.ONE) rfl T.gONE rfl) (pa_cons (SB.met m_Rule_coverage hr (by decide) (pv 0) (pa_cons (pv 1) pa_nil)) pa_nil))))), ?_⟩)
  obtain ⟨v, cd, R, n, I, rfl, vr, hn, hR, q⟩ := h
  obtain ⟨a, _, _, _, _, rfl, _⟩ := id hR
  obtain ⟨dx, d, rs, kvs, ha, hd, hrs, hc⟩ := hR.open
  refine ⟨_, rfl, a, _, _, rfl, ha, noRule_coverage, _, rfl, .ref a, cd, R, _, I, rfl, vr, by omega, hR, fun H1 r c1 r1 f1 => ?_⟩
  rw [covI_nat] at f1
  exact ⟨.ref T.ONE, r, 1, _, rfl, ⟨T.ONE, rfl, T.hONE H1⟩, f1, SS.Sz_one 1000 (by decide), (SS.cov_sz vr.v vr.g vr.r vr.p n (by omega)).mono (by decide), fun H2 v s2 f2 => q H2 v (c1.trans (Chg.of_same s2)) (r1.same s2) f2⟩
abbrev s_Rule_unstopped : Stmt := inClass (topS 17) 3
theorem sc_Rule_unstopped : FnScope ["self", "steps", "before", "rows", "own", "rate"] ["self", "steps"] (defScope s_Rule_unstopped) := SB.sc_by (by decide +kernel)
theorem len_Rule_unstopped {T : TX K mg} : ∀ vs H Q E, sp_Rule_unstopped T vs H Q E → vs.length = (["self", "steps"] : List Str).length := by
  rintro _ H Q E ⟨_, _, _, _, _, rfl, _⟩
  rfl
theorem ok_Rule_unstopped (T : TX K mg) (c_less : SB.Cal P w K mg base 3 "less" (sp_less T)) (c_times : SB.Cal P w K mg base 3 "times" (sp_times T)) (m_Drawn_distribution : SB.Met P w K mg base 3 T.Drawn "distribution" (sp_Drawn_distribution T)) (m_Rule_coverage : SB.Met P w K mg base 4 T.Rule "coverage" (sp_Rule_coverage T))  {f : Addr} {fd : FuncData} (F : Fun K "unstopped" "Rule.unstopped" s_Rule_unstopped f fd) : FnOk P w K mg base CX0 5 f fd ["self", "steps"] (sp_Rule_unstopped T) := by
  refine F.ok sc_Rule_unstopped len_Rule_unstopped (fun cdv A outer s H vs Q E hr h => ⟨_, (pss_cons (ps_set (i := 2) sc_Rule_unstopped.nd rfl (by first | exact Or.inl rfl | exact Or.inr rfl) (SB.met m_Rule_coverage hr (by decide) (pv 0) (pa_cons (pe_op op_sub (pv 1) pe_int) pa_nil))) (pss_cons (ps_set (i := 3) sc_Rule_unstopped.nd rfl (by first | exact Or.inl rfl | exact Or.inr rfl) (SB.met m_Drawn_distribution hr (by decide) (SB.kFld (K := K) rfl (pv 0) rfl) (pa_cons (SB.kFld (K := K) rfl (pv 0) rfl) (pa_cons (pv 1) pa_nil)))) (pss_one (ps_ret (pe_lc (own := [("own", 4), ("rate", 5)]) (g := (gTup K 2 (gCons (gName 4) (gCons (gName 5) gNil)))) (tt := tYes) (by rfl) sc_Rule_unstopped.nd (pi_zip (by rfl) T.b_zip (pa_cons (pv 3) (pa_cons (SB.kFld (K := K) rfl (pv 0) rfl) pa_nil))) (blkOk_by (own := [("own", 4), ("rate", 5)]) (N := ["self", "steps", "before", "rows", "own", "rate"]) (sc := (defScope s_Rule_unstopped)) (by decide +kernel)) (fun _ _ _ _ _ => (pg_tup (by rfl) (pgs_cons (pg_name (i := 4) sc_Rule_unstopped.nd rfl (by first | exact Or.inl rfl | exact Or.inr rfl)) (pgs_cons (pg_name (i := 5) sc_Rule_unstopped.nd rfl (by first | exact Or.inl rfl | exact Or.inr rfl)) pgs_nil)))) (fun _ _ _ _ _ => pts_nil) (fun _ _ _ _ _ => (SB.cal c_less hr (by decide) rfl (pa_cons (pv 4) (pa_cons (SB.cal c_times hr (by decide) rfl (pa_cons (pv 5) (pa_cons (pv 2) pa_nil))) pa_nil))))))))), ?_⟩)
  obtain ⟨v, cd, R, n, I, rfl, vr, hn, hR, q⟩ := h
  obtain ⟨a, _, _, _, _, rfl, _⟩ := id hR
  obtain ⟨dx, d, rs, kvs, ha, hd, hrs, hc⟩ := hR.open
  refine ⟨_, rfl, a, _, _, rfl, ha, noRule_coverage, _, rfl, _, _, rfl, rfl, .ref a, cd, R, ((n : Nat) : Int) - 1, I, rfl, vr, by omega, hR, fun H1 b c1 r1 f1 => ?_⟩
  rw [covI_pred] at f1
  obtain ⟨dx1, d1, rs1, kvs1, ha1, hd1, hrs1, hc1⟩ := r1.open
  obtain ⟨da, ddx, dc, dws, rfl, hda, _⟩ := id hd1
  refine ⟨_, rfl, a, T.Rule, _, _, _, rfl, ha1, T.clRule, T.nRule_drawn, lkRule_drawn, da, _, _, rfl, hda, noDrawn_distribution, _, rfl, a, T.Rule, _, _, _, rfl, ha1, T.clRule, T.nRule_start, lkRule_start, _, rfl, .ref da, R.t, R.g, R.p, n, rfl, vr.v, vr.g, vr.p, by omega, hd1.any, fun H2 r s2 fr => ?_⟩
  obtain ⟨xa, xs, rfl, xi, xq, xp⟩ := fr
  obtain ⟨ya, ys, rfl, yi, yq, yp⟩ := id hrs1
  have ha2 := s2 _ _ ha1
  have lx : xs.length = R.t.length := (Paired.length xp).trans (SS.len_dist _ _ _ _)
  have ly : ys.length = R.t.length := (Paired.length yp).trans vr.r.len
  refine ⟨_, rfl, _, rfl, a, T.Rule, _, _, _, rfl, ha2, T.clRule, T.nRule_rates, lkRule_rates, xa, ya, xs, ys, rfl, xq, Same.seq s2 yq, fun D hD => ?_⟩
  refine lc_it (walk_zip (n := R.t.length) (xs := xs) (ys := ys) (by omega)) (fun j H3 => Same H2 H3 ∧ Acc K H3 D ((unstopped R.t R.g R.y R.p n).take j)) ⟨same_upd hD, Acc.nil⟩ (fun j H3 _ ⟨s3, _⟩ => ⟨Same.seq s3 xq, Same.seq (s2.trans s3) yq⟩) ?_ ?_
  · rintro j x H3 H4 hj ⟨s3, h3⟩ ⟨Tp, x1, y1, rfl, hT, rfl, e1, e2⟩
    obtain ⟨X, eX, fX⟩ := Paired.at xp e1
    obtain ⟨Y, eY, fY⟩ := Paired.at yp e2
    have eX := entry_get eX
    have eY := entry_get eY
    have s4 := same_upd2 (o := .tup [x1, y1]) s3 (s3.free hT)
    have h4 := h3.same (same_upd (o := .tup [x1, y1]) hT)
    have hTp : upd H3 Tp (.tup [x1, y1]) Tp = some (.tup [x1, y1]) := upd_same
    generalize upd H3 Tp (.tup [x1, y1]) = H4 at s4 h4 hTp ⊢
    have s24 := s2.trans s4
    have sX : Sz 24 X := eX ▸ SS.dist_sz vr.v vr.g vr.p n (by omega) hj
    have sY : Sz 10 Y := eY ▸ vr.r.sz hj
    have sB := SS.before_sz vr.v vr.g vr.r vr.p n (by omega)
    have eU := SS.uns_at (t := R.t) (g := R.g) (y := R.y) (p := R.p) n hj
    rw [eX, eY, Rat.mul_comm] at eU
    have gU := get_entry (l := unstopped R.t R.g R.y R.p n) (j := j) (by rw [SS.len_uns]; exact hj)
    rw [eU] at gU
    refine ⟨Tp, _, rfl, SqT.of hTp, rfl, _, _, rfl, _, _, rfl, rfl, rfl, lcYes ⟨_, rfl, _, rfl, _, rfl, y1, b, Y, _, rfl, fY.same s24, f1.same s24, sY.mono (by decide), sB.mono (by decide), fun H5 r5 s5 f5 => ⟨x1, r5, X, _, rfl, (fX.same s4).same s5, f5, sX.mono (by decide), (SS.Sz_mul sY sB).mono (by decide), fun H6 r6 s6 f6 => ?_⟩⟩⟩
    obtain ⟨acc, a1, a2, a3⟩ := (h4.same (s5.trans s6)).snoc f6 (by rw [List.length_take]; have := vr.v.le; rw [SS.len_uns]; omega)
    refine ⟨acc, a1, a2, same_upd2 (s4.trans (s5.trans s6)) hD, ?_⟩
    rw [take_snoc gU]
    exact a3
  · rintro H3 ⟨s3, h3⟩
    rw [List.take_of_length_le (by rw [SS.len_uns]; omega)] at h3
    exact q H3 _ (c1.trans (Chg.of_same (s2.trans s3))) (r1.same (s2.trans s3)) (h3.frs (r1.free c1 (s2.free hD)))
abbrev s_Rule_stops : Stmt := inClass (topS 17) 4
theorem sc_Rule_stops : FnScope ["self", "steps", "gained", "told", "own", "rate"] ["self", "steps"] (defScope s_Rule_stops) := SB.sc_by (by decide +kernel)
theorem len_Rule_stops {T : TX K mg} : ∀ vs H Q E, sp_Rule_stops T vs H Q E → vs.length = (["self", "steps"] : List Str).length := by
  rintro _ H Q E ⟨_, _, _, _, _, rfl, _⟩
  rfl
theorem ok_Rule_stops (T : TX K mg) (c_less : SB.Cal P w K mg base 3 "less" (sp_less T)) (c_over : SB.Cal P w K mg base 3 "over" (sp_over T)) (c_times : SB.Cal P w K mg base 3 "times" (sp_times T)) (m_Rule_coverage : SB.Met P w K mg base 4 T.Rule "coverage" (sp_Rule_coverage T)) (m_Rule_unstopped : SB.Met P w K mg base 5 T.Rule "unstopped" (sp_Rule_unstopped T))  {f : Addr} {fd : FuncData} (F : Fun K "stops" "Rule.stops" s_Rule_stops f fd) : FnOk P w K mg base CX0 6 f fd ["self", "steps"] (sp_Rule_stops T) := by
  refine F.ok sc_Rule_stops len_Rule_stops (fun cdv A outer s H vs Q E hr h => ⟨_, (pss_cons (ps_set (i := 2) sc_Rule_stops.nd rfl (by first | exact Or.inl rfl | exact Or.inr rfl) (SB.cal c_less hr (by decide) rfl (pa_cons (SB.met m_Rule_coverage hr (by decide) (pv 0) (pa_cons (pv 1) pa_nil)) (pa_cons (SB.met m_Rule_coverage hr (by decide) (pv 0) (pa_cons (pe_op op_sub (pv 1) pe_int) pa_nil)) pa_nil)))) (pss_cons (ps_set (i := 3) sc_Rule_stops.nd rfl (by first | exact Or.inl rfl | exact Or.inr rfl) (pe_lst pa_nil)) (pss_cons (ps_for (by first | exact PassesOwn.never | exact passes_of rfl) rfl (pi_zip (by rfl) T.b_zip (pa_cons (SB.met m_Rule_unstopped hr (by decide) (pv 0) (pa_cons (pv 1) pa_nil)) (pa_cons (SB.kFld (K := K) rfl (pv 0) rfl) pa_nil))) (pg_tup (by rfl) (pgs_cons (pg_name (i := 4) sc_Rule_stops.nd rfl (by first | exact Or.inl rfl | exact Or.inr rfl)) (pgs_cons (pg_name (i := 5) sc_Rule_stops.nd rfl (by first | exact Or.inl rfl | exact Or.inr rfl)) pgs_nil))) (pss_one (ps_expr (pe_bm PySem.F.plainAttrs_list PySem.F.slot_list_append PySem.F.type_list_append mt_append (pv 3) (pa_cons (pe_ifExp (pt_cmpR op_gt (pe_ix (SB.kIxT (K := K) rfl) (pv 4) pe_int (fun _ _ => rfl)) pe_int (nomark _)) (SB.cal c_over hr (by decide) rfl (pa_cons (SB.cal c_times hr (by decide) rfl (pa_cons (pv 5) (pa_cons (pv 2) pa_nil))) (pa_cons (pv 4) pa_nil))) (pe_glob (v := .ref T.ZERO) rfl T.gZERO rfl)) pa_nil))))) (pss_one (ps_ret (pv 3)))))), ?_⟩)
  obtain ⟨v, cd, R, n, I, rfl, vr, hn, hR, q⟩ := h
  obtain ⟨a, _, _, _, _, rfl, _⟩ := id hR
  obtain ⟨dx, d, rs, kvs, ha, hd, hrs, hc⟩ := hR.open
  have sC := SS.cov_sz vr.v vr.g vr.r vr.p n (by omega)
  have sB := SS.before_sz vr.v vr.g vr.r vr.p n (by omega)
  refine ⟨_, rfl, a, _, _, rfl, ha, noRule_coverage, _, rfl, .ref a, cd, R, ((n : Nat) : Int), I, rfl, vr, by omega, hR, fun H1 cv c1 r1 f1 => ?_⟩
  rw [covI_nat] at f1
  obtain ⟨dx1, d1, rs1, kvs1, ha1, hd1, hrs1, hc1⟩ := r1.open
  refine ⟨_, rfl, a, _, _, rfl, ha1, noRule_coverage, _, rfl, _, _, rfl, rfl, .ref a, cd, R, ((n : Nat) : Int) - 1, I, rfl, vr, by omega, r1, fun H2 b c2 r2 f2 => ?_⟩
  rw [covI_pred] at f2
  refine ⟨cv, b, _, _, rfl, r1.fr c2 f1, f2, sC.mono (by decide), sB.mono (by decide), fun H3 gd s3 f3 => ?_⟩
  have r3 := r2.same s3
  have sG := SS.gain_sz vr.v vr.g vr.r vr.p n (by omega)
  refine ⟨le_line (by show 0 ≤ _; decide), fun D hD => ?_⟩
  have s34 : Same H3 (upd H3 D (.lst [])) := same_upd hD
  have h4D : upd H3 D (.lst []) D = some (.lst []) := upd_same
  generalize upd H3 D (.lst []) = H4 at s34 h4D ⊢
  have r4 := r3.same s34
  obtain ⟨dx4, d4, rs4, kvs4, ha4, hd4, hrs4, hc4⟩ := r4.open
  have ncD : D ≠ cd := fun z => by rw [z, hc4] at h4D; cases h4D
  refine ⟨_, rfl, a, _, _, rfl, ha4, noRule_unstopped, _, rfl, .ref a, cd, R, n, I, rfl, vr, hn, r4, fun H5 ur c5 r5 fr => ?_⟩
  obtain ⟨kvs5, hc5⟩ := r5.cd
  obtain ⟨dx3, d3, rs3, kvs3, ha3, hd3, hrs3, hc3⟩ := r3.open
  have o3 : Off (· = cd) I H3 := (offD (T := T) hc3).toOff
  have nca : a ≠ cd := fun z => by rw [z, hc3] at ha3; cases ha3
  obtain ⟨xa, xs, rfl, xi, xq, xp⟩ := fr
  obtain ⟨ya, ys, rfl, yi, yq, yp⟩ := id hrs3
  have lx : xs.length = R.t.length := (Paired.length xp).trans (SS.len_uns _)
  have ly : ys.length = R.t.length := (Paired.length yp).trans vr.r.len
  have h5D := c5 _ _ h4D ncD
  have c35 : Chg (· = cd) H3 H5 := (Chg.of_same s34).trans c5
  have ha5 := c35 _ _ ha3 nca
  have nx : xa ≠ D := fun z => by rw [z] at xi; rw [show H4 D = none from xi] at h4D; cases h4D
  have oD : Off (· = D) (fun b => b ≠ D) H5 := offL h5D (fun z => z rfl)
  have oDF : Off (· = D) (fun _ => False) H5 := offL h5D (fun z => z)
  refine ⟨_, rfl, a, T.Rule, _, _, _, rfl, ha5, T.clRule, T.nRule_rates, lkRule_rates, xa, ya, xs, ys, rfl, xq, o3.sqL c35 yi yq, ?_⟩
  refine for_it (walk_zip (n := R.t.length) (xs := xs) (ys := ys) (by omega)) (fun j σ H6 => ∃ (o4 o5 : Option V), σ = [some (.ref a), some (intT n), some gd, some (.ref D), o4, o5] ∧ Chg (· = cd) H3 H6 ∧ Chg (· = D) H5 H6 ∧ Acc K H6 D ((stopProbs R.t R.g R.y R.p n).take j))
    ⟨none, none, rfl, c35, Chg.refl H5, ⟨[], h5D, .nil⟩⟩ (fun j σ H6 _ ⟨_, _, _, c3, c6, _⟩ => ⟨oD.sqL c6 nx xq, o3.sqL c3 yi yq⟩) ?_ ?_
  · rintro j x σ H6 H7 hj ⟨o4, o5, rfl, c36, c56, h6⟩ ⟨Tp, x1, y1, rfl, hT, rfl, e1, e2⟩
    obtain ⟨X, eX, fX⟩ := Paired.at xp e1
    obtain ⟨Y, eY, fY⟩ := Paired.at yp e2
    have eX := entry_get eX
    have eY := entry_get eY
    have s67 : Same H6 (upd H6 Tp (.tup [x1, y1])) := same_upd hT
    have hTp : upd H6 Tp (.tup [x1, y1]) Tp = some (.tup [x1, y1]) := upd_same
    generalize upd H6 Tp (.tup [x1, y1]) = H7 at s67 hTp ⊢
    have h7 := h6.same s67
    have fX := (fX.off oDF c56).same s67
    have fY := (r3.fr c36 fY).same s67
    have fG : FrAt K H7 gd _ := (r3.fr c36 f3).same s67
    have sX : Sz 100 X := eX ▸ SS.uns_sz vr.v vr.g vr.r vr.p n (by omega) hj
    have sY : Sz 10 Y := eY ▸ vr.r.sz hj
    have eU := SS.stops_loop (t := R.t) (g := R.g) (y := R.y) (p := R.p) vr.v vr.g vr.r n hj
    rw [eX, eY] at eU
    have gU := get_entry (l := stopProbs R.t R.g R.y R.p n) (j := j) (by rw [SS.len_stops]; exact hj)
    rw [eU] at gU
    have lj : ((stopProbs R.t R.g R.y R.p n).take j).length ≤ 100 := by rw [List.length_take, SS.len_stops]; have := vr.v.le; omega
    obtain ⟨xb, rfl, hxb⟩ := id fX
    obtain ⟨vs7, v7, _⟩ := id h7
    have nac : D ≠ cd := ncD
    have fin : ∀ (H8 : Hp) (r8 : V), Same H7 H8 → FrAt K H8 r8 (if 0 < X.num then Y * (coverage R.t R.g R.y R.p n - R7244e.Spec.coverageBefore R.t R.g R.y R.p n) / X else 0) →
        ∃ xs', H8 D = some (.lst xs') ∧ xs'.length < sizeLine ∧ (Chg (· = cd) H3 (upd H8 D (.lst (xs' ++ [r8]))) ∧ Chg (· = D) H5 (upd H8 D (.lst (xs' ++ [r8]))) ∧ Acc K (upd H8 D (.lst (xs' ++ [r8]))) D ((stopProbs R.t R.g R.y R.p n).take (j + 1))) := by
      intro H8 r8 s8 f8
      have h8 := h7.same s8
      obtain ⟨acc, a1, a2, a3⟩ := h8.snoc f8 lj
      have c38 := c36.trans (Chg.of_same (s67.trans s8))
      have c3u : Chg (· = cd) H3 (upd H8 D (.lst (acc ++ [r8]))) := chg_upd c38 (.inl hD)
      refine ⟨acc, a1, a2, c3u, chg_upd (c56.trans (Chg.of_same (s67.trans s8))) (.inr rfl), ?_⟩
      rw [take_snoc gU]
      exact a3
    refine ⟨Tp, _, rfl, SqT.of hTp, rfl, _, _, rfl, _, _, rfl, rfl, _, rfl, .inl ⟨rfl, _, SqL.of v7⟩, _, rfl, xb, _, 0, _, rfl, rfl, hxb, rfl, _, _, rfl, rfl, _, rfl, ?_⟩
    refine ite2 (fun c9 => ?_) (fun c9 => ?_)
    · have c9 : 0 < X.num := of_decide_eq_true c9
      rw [if_pos c9] at fin
      refine ⟨_, rfl, _, rfl, y1, gd, Y, _, rfl, fY, fG, sY.mono (by decide), sG.mono (by decide), fun H8 r8 s8 f8 => ⟨_, rfl, r8, .ref xb, _, X, rfl, f8, fX.same s8, (SS.Sz_mul sY sG).mono (by decide), sX.mono (by decide), num_pos_mp c9, fun H9 r9 s9 f9 => ?_⟩⟩
      obtain ⟨acc, a1, a2, a3⟩ := fin H9 r9 (s8.trans s9) f9
      exact ⟨D, acc, r9, rfl, rfl, a1, a2, _, _, rfl, a3⟩
    · have c9 : ¬ 0 < X.num := fun z => c9 (decide_eq_true z)
      rw [if_neg c9] at fin
      obtain ⟨acc, a1, a2, a3⟩ := fin H7 (.ref T.ZERO) (Same.refl H7) ⟨T.ZERO, rfl, T.hZERO H7⟩
      exact ⟨D, acc, .ref T.ZERO, rfl, rfl, a1, a2, _, _, rfl, a3⟩
  · rintro σ H6 ⟨o4, o5, rfl, c36, c56, h6⟩
    rw [List.take_of_length_le (by rw [SS.len_stops]; omega)] at h6
    have c03 := c1.trans (c2.trans (Chg.of_same s3))
    have n0 : H D = none := r1.free c1 (r2.free c2 (s3.free hD))
    refine ⟨_, rfl, q H6 _ (c03.trans c36) ?_ (h6.frs n0)⟩
    obtain ⟨_, _, _, _, kvs6, _, _, _, _, hc6, ok6⟩ := id r5
    exact r3.ok2 c36 (c56 _ _ hc6 (fun z => ncD z.symm)) (ok6.off oDF c56)
abbrev s_Rule_stop_at : Stmt := inClass (topS 17) 5
theorem sc_Rule_stop_at : FnScope ["self", "word"] ["self", "word"] (defScope s_Rule_stop_at) := SB.sc_by (by decide +kernel)
theorem len_Rule_stop_at {T : TX K mg} : ∀ vs H Q E, sp_Rule_stop_at T vs H Q E → vs.length = (["self", "word"] : List Str).length := by
  rintro _ H Q E ⟨_, _, _, _, _, _, rfl, _⟩
  rfl
theorem ok_Rule_stop_at (T : TX K mg) (m_Drawn_state_behind : SB.Met P w K mg base 1 T.Drawn "state_behind" (sp_Drawn_state_behind T)) (m_Rule_stops : SB.Met P w K mg base 6 T.Rule "stops" (sp_Rule_stops T))  {f : Addr} {fd : FuncData} (F : Fun K "stop_at" "Rule.stop_at" s_Rule_stop_at f fd) : FnOk P w K mg base CX0 7 f fd ["self", "word"] (sp_Rule_stop_at T) := by
  refine F.ok sc_Rule_stop_at len_Rule_stop_at (fun cdv A outer s H vs Q E hr h => ⟨_, (pss_one (ps_ret (pe_ix (SB.kIxL (K := K) rfl) (SB.met m_Rule_stops hr (by decide) (pv 0) (pa_cons (pe_callB (SB.kLen (K := K) rfl) (by rfl) T.b_len PySem.boot_len (pa_cons (pv 1) pa_nil)) pa_nil)) (SB.met m_Drawn_state_behind hr (by decide) (SB.kFld (K := K) rfl (pv 0) rfl) (pa_cons (SB.kFld (K := K) rfl (pv 0) rfl) (pa_cons (pv 1) pa_nil))) (fun _ _ => rfl)))), ?_⟩)
  obtain ⟨v, wv, cd, R, wd, I, rfl, vr, hw, lw, let_, hR, q⟩ := h
  obtain ⟨a, _, _, _, _, rfl, _⟩ := id hR
  obtain ⟨wa, rfl, hwa⟩ := id hw
  obtain ⟨dx, d, rs, kvs, ha, hd, hrs, hc⟩ := hR.open
  refine ⟨_, rfl, a, _, _, rfl, ha, noRule_stops, _, rfl, wa, _, rfl, .inr hwa, .ref a, cd, R, wd.length, I, by rw [List.length_map]; rfl, vr, lw, hR, fun H1 sr c1 r1 fr => ?_⟩
  obtain ⟨dx1, d1, rs1, kvs1, ha1, hd1, hrs1, hc1⟩ := r1.open
  obtain ⟨da, ddx, dc, dws, rfl, hda, _⟩ := id hd1
  obtain ⟨xa, xs, rfl, xi, xq, xp⟩ := fr
  have hl := SS.endState_lt vr.v wd R.p vr.p
  have gU := get_entry (l := stopProbs R.t R.g R.y R.p wd.length) (j := endState R.t R.p wd) (by rw [SS.len_stops]; exact hl)
  obtain ⟨u, eu, fu⟩ := Paired.at' xp gU
  exact ⟨_, rfl, a, T.Rule, _, _, _, rfl, ha1, T.clRule, T.nRule_drawn, lkRule_drawn, da, _, _, rfl, hda, noDrawn_state_behind, _, rfl, a, T.Rule, _, _, _, rfl, ha1, T.clRule, T.nRule_start, lkRule_start, _, rfl, .ref da, .ref wa, R.t, R.g, R.p, wd, rfl, vr.v, hd1.any, vr.p, hR.wd c1 hw, lw, let_, xa, xs, _, u, rfl, rfl, xq, atI_nat eu, q H1 u c1 r1 fu⟩
theorem RuAt.updL {T : TX K mg} {I : Addr → Prop} {H0 H : Hp} {v : V} {cd D : Addr} {R : Ru} {xs ys : List V} (h0 : RuAt T I H0 v cd R) (r : RuAt T I H v cd R) (c : Chg (· = cd) H0 H) (n : H0 D = none) (hD : H D = some (.lst xs)) : RuAt T I (upd H D (.lst ys)) v cd R := by
  obtain ⟨_, _, _, _, kvs5, _, _, _, _, hc5, ok5⟩ := r
  have ne : cd ≠ D := fun z => by rw [z, hD] at hc5; cases hc5
  exact h0.ok2 (chg_upd c (.inl n)) (by rw [upd_ne ne]; exact hc5) (ok5.off (M := (· = D)) (I := fun _ => False) (offL hD (fun z => z)) chg1)
theorem cut_take (xs : List V) (i : Nat) (h : i < xs.length) : cutV xs none (some ((i : Nat) : Int)) = xs.take i := by
  unfold cutV
  rw [HT.sIx_none, HT.sIx_nat, List.drop_zero, Nat.min_eq_left (Nat.le_of_lt h), Nat.sub_zero]
theorem frac_ne {num : Int} {den : Nat} : (!PyData.eqv (.tuple [.int num, .int (den : Nat)]) (.tuple [.int 1, .int 1])) = !(decide (num = 1) && decide (((den : Nat) : Int) = 1)) := by
  rw [Bool.eq_iff_iff]
  simp [PyData.eqv, PyData.eqvAll]
theorem rat_one (x : Rat) : (decide (x.num = 1) && decide (((x.den : Nat) : Int) = 1)) = decide (x = 1) := by
  rw [Bool.eq_iff_iff]
  simp only [Bool.and_eq_true, decide_eq_true_eq]
  constructor
  · rintro ⟨h1, h2⟩
    apply Rat.ext
    · exact h1
    · show x.den = 1
      omega
  · rintro rfl
    exact ⟨rfl, rfl⟩
abbrev s_Rule_may_continue : Stmt := inClass (topS 17) 6
theorem sc_Rule_may_continue : FnScope ["self", "word", "many"] ["self", "word"] (defScope s_Rule_may_continue) := SB.sc_by (by decide +kernel)
theorem len_Rule_may_continue {T : TX K mg} : ∀ vs H Q E, sp_Rule_may_continue T vs H Q E → vs.length = (["self", "word"] : List Str).length := by
  rintro _ H Q E ⟨_, _, _, _, _, _, rfl, _⟩
  rfl
theorem ok_Rule_may_continue (T : TX K mg) (m_Rule_stop_at : SB.Met P w K mg base 7 T.Rule "stop_at" (sp_Rule_stop_at T))  {f : Addr} {fd : FuncData} (F : Fun K "may_continue" "Rule.may_continue" s_Rule_may_continue f fd) : FnOk P w K mg base CX0 8 f fd ["self", "word"] (sp_Rule_may_continue T) := by
  refine F.ok sc_Rule_may_continue len_Rule_may_continue (fun cdv A outer s H vs Q E hr h => ⟨_, (pss_one (ps_ret (pe_callB (SB.kAll (K := K) rfl rfl) (by rfl) T.b_all (by decide +kernel) (pa_cons (pe_lc (own := [("many", 2)]) (g := (gName 2)) (tt := tYes) (by rfl) sc_Rule_may_continue.nd (pi_range1 (by rfl) T.b_range (pa_cons (pe_callB (SB.kLen (K := K) rfl) (by rfl) T.b_len PySem.boot_len (pa_cons (pv 1) pa_nil)) pa_nil)) (blkOk_by (own := [("many", 2)]) (N := ["self", "word", "many"]) (sc := (defScope s_Rule_may_continue)) (by decide +kernel)) (fun _ _ _ _ _ => (pg_name (i := 2) sc_Rule_may_continue.nd rfl (by first | exact Or.inl rfl | exact Or.inr rfl))) (fun _ _ _ _ _ => pts_nil) (fun _ _ _ _ _ => (pe_cmpR (SB.kNeD (K := K) rfl hr.units) (SB.met m_Rule_stop_at hr (by decide) (pv 0) (pa_cons (pe_slice (SB.kSlA (K := K) rfl) (pv 1) po_none (po_some (pv 2))) pa_nil)) (pe_glob (v := .ref T.ONE) rfl T.gONE rfl) (nomark _)))) pa_nil)))), ?_⟩)
  obtain ⟨v, wv, cd, R, wd, I, rfl, vr, hw, lw, let_, hR, q⟩ := h
  obtain ⟨a, _, _, _, _, rfl, _⟩ := id hR
  obtain ⟨wa, rfl, hwa⟩ := id hw
  obtain ⟨dx, d, rs, kvs, ha, hd, hrs, hc⟩ := hR.open
  have el : ((((wd.map intT).length : Nat) : Int)).toNat = wd.length := by rw [List.length_map]; exact Int.toNat_natCast _
  refine ⟨_, rfl, wa, _, rfl, .inr hwa, _, rfl, by rw [List.length_map]; omega, by rw [List.length_map]; omega, fun D hD => ?_⟩
  rw [el]
  refine lc_range (lo := 0) (n := wd.length) (fun i H3 => Chg (· = cd) H H3 ∧ RuAt T I H3 (.ref a) cd R ∧ H3 D = some (.lst ((List.range i).map fun k => V.bl (!decide (entry (stopProbs R.t R.g R.y R.p (wd.take k).length) (endState R.t R.p (wd.take k)) = 1))))) ⟨Chg.of_same (same_upd hD), hR.same (same_upd hD), upd_same⟩ ?_ ?_
  · rintro i H3 hi ⟨c3, r3, h3⟩
    have ei : (0 : Int) + (i : Nat) = ((i : Nat) : Int) := by omega
    rw [ei]
    obtain ⟨dx3, d3, rs3, kvs3, ha3, hd3, hrs3, hc3⟩ := r3.open
    have hwa3 := hR.wd c3 hw
    have lti : (wd.take i).length = i := by rw [List.length_take]; omega
    have fin : ∀ (wv : V) (H4 : Hp), Same H3 H4 → WdAt K H4 wv (wd.take i) → sp_Rule_stop_at T [.ref a, wv] H4 (fun x H5 => rNeD K x (.ref T.ONE) H5 fun y H6 => ∃ acc, H6 D = some (.lst acc) ∧ acc.length < sizeLine ∧ (Chg (· = cd) H (upd H6 D (.lst (acc ++ [y]))) ∧ RuAt T I (upd H6 D (.lst (acc ++ [y]))) (.ref a) cd R ∧ upd H6 D (.lst (acc ++ [y])) D = some (.lst ((List.range (i + 1)).map fun k => V.bl (!decide (entry (stopProbs R.t R.g R.y R.p (wd.take k).length) (endState R.t R.p (wd.take k)) = 1)))))) E0 := by
      intro wv H4 s4 w4
      refine ⟨.ref a, wv, cd, R, wd.take i, I, rfl, vr, w4, by omega, fun c hc => let_ c (List.mem_of_mem_take hc), r3.same s4, fun H5 u c5 r5 fu => ?_⟩
      obtain ⟨ua, rfl, hu⟩ := fu
      have n : D ≠ cd := fun z => by rw [z, hc3] at h3; cases h3
      have h5 := c5 _ _ (s4 _ _ h3) n
      refine ⟨_, _, .tup hu (.cons (.int _) (.cons (.int _) .nil)), .tup (T.hONE H5) (.cons (.int _) (.cons (.int _) .nil)), by rfl, by rfl, _, h5, ?_, ?_, ?_, ?_⟩
      · rw [List.length_map, List.length_range]
        exact lt_line (by omega)
      · exact chg_upd (c3.trans ((Chg.of_same s4).trans c5)) (.inl hD)
      · exact hR.updL r5 (c3.trans ((Chg.of_same s4).trans c5)) hD h5
      · rw [upd_same, frac_ne, rat_one, List.range_succ, List.map_append]
        rfl
    refine ⟨rfl, lcYes ⟨_, rfl, a, _, _, rfl, ha3, noRule_stop_at, _, rfl, _, rfl, _, rfl, wa, wd.map intT, rfl, ?_, fun hh => ?_, fun _ p hp => ?_⟩⟩
    · obtain ⟨_, e, z⟩ := hwa3
      cases e
      exact z
    · have h2 := hh.2
      rw [HT.sIx_nat, List.length_map] at h2
      omega
    · refine fin _ _ (same_upd hp) ⟨p, rfl, ?_⟩
      rw [cut_take _ _ (by rw [List.length_map]; exact hi), ← List.map_take]
      exact SqT.of upd_same
  · rintro H3 ⟨c3, r3, h3⟩
    have eb : ((List.range wd.length).map fun k => V.bl (!decide (entry (stopProbs R.t R.g R.y R.p (wd.take k).length) (endState R.t R.p (wd.take k)) = 1))) = ((List.range wd.length).map fun k => !decide (entry (stopProbs R.t R.g R.y R.p (wd.take k).length) (endState R.t R.p (wd.take k)) = 1)).map V.bl := by rw [List.map_map]; rfl
    rw [eb] at h3
    refine ⟨D, _, rfl, SqL.of h3, ?_⟩
    have e : (((List.range wd.length).map fun k => !decide (entry (stopProbs R.t R.g R.y R.p (wd.take k).length) (endState R.t R.p (wd.take k)) = 1)).all id) = (survival R.t R.g R.y R.p wd != 0) := by
      rw [Bool.eq_iff_iff, List.all_map, List.all_eq_true]
      have si := SS.surv_iff (t := R.t) (g := R.g) (y := R.y) (p := R.p) vr.g wd 0 R.p
      unfold survival
      rw [bne_iff_ne, si]
      constructor
      · intro h i hi
        have z := h i (List.mem_range.mpr hi)
        have lti : (wd.take i).length = i := by rw [List.length_take]; omega
        simp only [Function.comp, lti, id, Bool.not_eq_true', decide_eq_false_iff_not] at z
        rw [Nat.zero_add]
        exact z
      · intro h k hk
        have hk := List.mem_range.mp hk
        have z := h k hk
        have lti : (wd.take k).length = k := by rw [List.length_take]; omega
        rw [Nat.zero_add] at z
        simp only [Function.comp, lti, id, Bool.not_eq_true', decide_eq_false_iff_not]
        exact z
    rw [e]
    exact q H3 c3 r3

end
end SP

/-! ## SP4 -/
set_option maxHeartbeats 4000000
namespace SP
open PySem PySem.Spec PyProof.Rows L2 SB
abbrev Units := R7244e.Spec.Units
/-- a unit, an octet -/
def unitT (c : UInt16) : V := intT c.toNat
def octT (o : UInt8) : V := intT o.toNat
section
variable {K : PySem.W.Frag} {mg : Str → Option Value} (T : TX K mg) (I : Addr → Prop) (H : Hp) (b : Bool)
mutual
/-- how a value of the document lies -/
inductive PlAt : V → Plain → Prop
  | undef {a dx e : Addr} : H a = some (.ins T.Nothing dx [("octets", .ref e)]) → PlAt (.ref a) .undef
  | null : PlAt .non .null
  | bool (x : Bool) : PlAt (.bl x) (.bool x)
  | num (i : Int) : PlAt (.int i) (.num (some i))
  | str {a dx e : Addr} {u : Units} : H a = some (.ins T.Text dx [("octets", .ref e)]) → SqT K H e (u.map unitT) → PlAt (.ref a) (.str u)
  | pstr (s : Str) : b = true → (∀ c ∈ s.cps.toList, c < 128) → PlAt (.str s) (.str (s.cps.toList.map UInt16.ofNat))
  | arr {a : Addr} {vs : List V} {l : List Plain} : I a → SqL K H a vs → PlsAt vs l → PlAt (.ref a) (.arr l)
  | obj {a dx m : Addr} {ms : List V} {l : List (Units × Plain)} : H a = some (.ins T.Record dx [("members", .ref m)]) → I m → SqL K H m ms → FsAt ms l → PlAt (.ref a) (.obj l)
inductive PlsAt : List V → List Plain → Prop
  | nil : PlsAt [] []
  | cons {v : V} {p : Plain} {vs : List V} {l : List Plain} : PlAt v p → PlsAt vs l → PlsAt (v :: vs) (p :: l)
inductive FsAt : List V → List (Units × Plain) → Prop
  | nil : FsAt [] []
  | cons {t n : Addr} {v : V} {nm : Units} {p : Plain} {ms : List V} {l : List (Units × Plain)} : SqT K H t [.ref n, v] → I n → SqL K H n (nm.map unitT) → PlAt v p → FsAt ms l → FsAt (.ref t :: ms) ((nm, p) :: l)
end
end
section
variable {K : PySem.W.Frag} {mg : Str → Option Value} {T : TX K mg} {I J : Addr → Prop} {H H' : Hp} {b b' : Bool}
/-- what a change must leave -/
structure Keeps (K : PySem.W.Frag) (I J : Addr → Prop) (H H' : Hp) : Prop where
  i : ∀ a, I a → J a
  ins : ∀ a C dx f v, H a = some (.ins C dx [(f, v)]) → H' a = some (.ins C dx [(f, v)])
  tup : ∀ a xs, SqT K H a xs → SqT K H' a xs
  lst : ∀ a xs, I a → SqL K H a xs → SqL K H' a xs
mutual
theorem PlAt.keep (k : Keeps K I J H H') (hb : b = true → b' = true) : ∀ {v : V} {p : Plain}, PlAt T I H b v p → PlAt T J H' b' v p
  | _, _, .undef h => .undef (k.ins _ _ _ _ _ h)
  | _, _, .null => .null
  | _, _, .bool x => .bool x
  | _, _, .num i => .num i
  | _, _, .str h q => .str (k.ins _ _ _ _ _ h) (k.tup _ _ q)
  | _, _, .pstr s z c => .pstr s (hb z) c
  | _, _, .arr i q l => .arr (k.i _ i) (k.lst _ _ i q) (PlsAt.keep k hb l)
  | _, _, .obj h i q l => .obj (k.ins _ _ _ _ _ h) (k.i _ i) (k.lst _ _ i q) (FsAt.keep k hb l)
theorem PlsAt.keep (k : Keeps K I J H H') (hb : b = true → b' = true) : ∀ {vs : List V} {l : List Plain}, PlsAt T I H b vs l → PlsAt T J H' b' vs l
  | _, _, .nil => .nil
  | _, _, .cons h t => .cons (PlAt.keep k hb h) (PlsAt.keep k hb t)
theorem FsAt.keep (k : Keeps K I J H H') (hb : b = true → b' = true) : ∀ {vs : List V} {l : List (Units × Plain)}, FsAt T I H b vs l → FsAt T J H' b' vs l
  | _, _, .nil => .nil
  | _, _, .cons h i q p t => .cons (k.tup _ _ h) (k.i _ i) (k.lst _ _ i q) (PlAt.keep k hb p) (FsAt.keep k hb t)
end
theorem keeps_same (s : Same H H') (j : ∀ a, I a → J a) : Keeps K I J H H' := ⟨j, fun _ _ _ _ _ h => s _ _ h, fun _ _ h => same_tup s h, fun _ _ _ h => Same.seq s h⟩
theorem PlAt.same {v : V} {p : Plain} (s : Same H H') (h : PlAt T I H b v p) : PlAt T I H' b v p := h.keep (keeps_same s fun _ i => i) (fun z => z)
theorem PlsAt.same {v : List V} {p : List Plain} (s : Same H H') (h : PlsAt T I H b v p) : PlsAt T I H' b v p := h.keep (keeps_same s fun _ i => i) (fun z => z)
theorem PlAt.mono {v : V} {p : Plain} (j : ∀ a, I a → J a) (h : PlAt T I H b v p) : PlAt T J H b v p := h.keep (keeps_same (Same.refl H) j) (fun z => z)
theorem PlsAt.mono {v : List V} {p : List Plain} (j : ∀ a, I a → J a) (h : PlsAt T I H b v p) : PlsAt T J H b v p := h.keep (keeps_same (Same.refl H) j) (fun z => z)
/-- as a value that goes out -/
theorem PlAt.out {v : V} {p : Plain} (h : PlAt T I H b v p) : PlAt T Any H true v p := h.keep (keeps_same (Same.refl H) fun _ _ => trivial) (fun _ => rfl)
/-- M touches no value: tuples, lists of I, instances of one field -/
structure OffP (M I : Addr → Prop) (H : Hp) : Prop extends Off M I H where
  one : ∀ a C dx f v, M a → H a ≠ some (.ins C dx [(f, v)])
theorem keeps_off {M : Addr → Prop} (f : OffP M I H) (s : Chg M H H') : Keeps K I I H H' :=
  ⟨fun _ i => i, fun a C dx g v h => s _ _ h fun m => f.one a C dx g v m h, fun _ _ h => f.toOff.sqT s h, fun _ _ i h => f.toOff.sqL s i h⟩
theorem PlAt.off {M : Addr → Prop} {v : V} {p : Plain} (f : OffP M I H) (s : Chg M H H') (h : PlAt T I H b v p) : PlAt T I H' b v p := h.keep (keeps_off f s) (fun z => z)
theorem PlsAt.off {M : Addr → Prop} {v : List V} {p : List Plain} (f : OffP M I H) (s : Chg M H H') (h : PlsAt T I H b v p) : PlsAt T I H' b v p := h.keep (keeps_off f s) (fun z => z)
theorem PlsAt.snoc {v : V} {p : Plain} : ∀ {vs : List V} {l : List Plain}, PlsAt T I H b vs l → PlAt T I H b v p → PlsAt T I H b (vs ++ [v]) (l ++ [p])
  | _, _, .nil, h => .cons h .nil
  | _, _, .cons x t, h => .cons x (PlsAt.snoc t h)
theorem PlsAt.len : ∀ {vs : List V} {l : List Plain}, PlsAt T I H b vs l → vs.length = l.length
  | _, _, .nil => rfl
  | _, _, .cons x t => by rw [List.length_cons, List.length_cons, PlsAt.len t]
theorem PlsAt.get : ∀ {vs : List V} {l : List Plain} {i : Nat} {p : Plain}, PlsAt T I H b vs l → l[i]? = some p → ∃ v, vs[i]? = some v ∧ PlAt T I H b v p
  | _, _, _, _, .nil, e => by simp at e
  | _, _, 0, _, .cons x t, e => by simp at e; subst e; exact ⟨_, rfl, x⟩
  | _, _, i + 1, p, .cons x t, e => by
    obtain ⟨v, h1, h2⟩ := PlsAt.get (i := i) (p := p) t (by simpa using e)
    exact ⟨v, by simpa using h1, h2⟩
theorem PlsAt.get' : ∀ {vs : List V} {l : List Plain} {i : Nat} {v : V}, PlsAt T I H b vs l → vs[i]? = some v → ∃ p, l[i]? = some p ∧ PlAt T I H b v p
  | _, _, _, _, .nil, e => by simp at e
  | _, _, 0, _, .cons x t, e => by simp at e; subst e; exact ⟨_, rfl, x⟩
  | _, _, i + 1, v, .cons x t, e => by
    obtain ⟨p, h1, h2⟩ := PlsAt.get' (i := i) (v := v) t (by simpa using e)
    exact ⟨p, by simpa using h1, h2⟩
theorem FsAt.len : ∀ {vs : List V} {l : List (Units × Plain)}, FsAt T I H b vs l → vs.length = l.length
  | _, _, .nil => rfl
  | _, _, .cons _ _ _ _ t => by rw [List.length_cons, List.length_cons, FsAt.len t]
theorem FsAt.snoc {t n : Addr} {v : V} {nm : Units} {p : Plain} (ht : SqT K H t [.ref n, v]) (hi : I n) (hn : SqL K H n (nm.map unitT)) (hp : PlAt T I H b v p) : ∀ {vs : List V} {l : List (Units × Plain)}, FsAt T I H b vs l → FsAt T I H b (vs ++ [.ref t]) (l ++ [(nm, p)])
  | _, _, .nil => .cons ht hi hn hp .nil
  | _, _, .cons a b c d t => .cons a b c d (FsAt.snoc ht hi hn hp t)
theorem FsAt.get' : ∀ {vs : List V} {l : List (Units × Plain)} {i : Nat} {x : V}, FsAt T I H b vs l → vs[i]? = some x → ∃ (t n : Addr) (v : V) (nm : Units) (p : Plain), x = .ref t ∧ l[i]? = some (nm, p) ∧ SqT K H t [.ref n, v] ∧ SqL K H n (nm.map unitT) ∧ PlAt T I H b v p
  | _, _, _, _, .nil, e => by simp at e
  | _, _, 0, _, .cons ht hi hn hp t, e => by simp at e; subst e; exact ⟨_, _, _, _, _, rfl, rfl, ht, hn, hp⟩
  | _, _, i + 1, x, .cons _ _ _ _ t, e => by
    obtain ⟨a, n, v, nm, p, h1, h2, h3⟩ := FsAt.get' (i := i) (x := x) t (by simpa using e)
    exact ⟨a, n, v, nm, p, h1, by simpa using h2, h3⟩

/-! ### isinstance -/
def tyP (T : TX K mg) (v : V) : Plain → Value
  | .undef => .ref T.Nothing
  | .null => .type "NoneType"
  | .bool _ => .type "bool"
  | .num _ => .type "int"
  | .str _ => (match v with | .str _ => .type "str" | _ => .ref T.Text)
  | .arr _ => .type "list"
  | .obj _ => .ref T.Record
  | .big => .type "int"
theorem ty_list {a : Addr} {xs : List V} (h : SqL K H a xs) : TyX K H (.ref a) (.type "list") := by
  rcases h with (h | ⟨o, h⟩) | ⟨o, its, n, h1, h2, _⟩
  · exact .base (.lst h)
  · exact .base (.frz h)
  · exact .kList h1 h2
theorem ty_ins {a C dx : Addr} {fs : List (Str × V)} (h : H a = some (.ins C dx fs)) (c : Cls K C) (hC : C = T.Nothing ∨ C = T.Text ∨ C = T.Record) : TyX K H (.ref a) (.ref C) := by
  obtain ⟨h1, h2, h3, h4⟩ := T.obj C hC
  exact .base (.ins h c h1 h2 h3 h4)
theorem PlAt.ty {v : V} {p : Plain} (h : PlAt T I H b v p) : TyX K H v (tyP T v p) := by
  cases h with
  | undef h => exact ty_ins h T.clNothing (.inl rfl)
  | null => exact .base .non
  | bool x => exact .base (.bl x)
  | num i => exact .base (.int i)
  | str h q => exact ty_ins h T.clText (.inr (.inl rfl))
  | pstr s z c => exact .base (.str s)
  | arr i q l => exact ty_list q
  | obj h i q l => exact ty_ins h T.clRecord (.inr (.inr rfl))
def isIntP : Plain → Bool
  | .bool _ => true
  | .num _ => true
  | _ => false
def isArrP : Plain → Bool
  | .arr _ => true
  | _ => false
def isUndP : Plain → Bool
  | .undef => true
  | _ => false
def isObjP : Plain → Bool
  | .obj _ => true
  | _ => false
def isTxtP (v : V) : Plain → Bool
  | .str _ => (match v with | .str _ => false | _ => true)
  | _ => false
def isStrP (v : V) : Plain → Bool
  | .str _ => (match v with | .str _ => true | _ => false)
  | _ => false
theorem kit_self (v : Value) : PySem.W.kitOne K v v = some true := by simp [PySem.W.kitOne]
theorem isi_int {v : V} {p : Plain} (h : PlAt T I H b v p) : ∃ t, TyX K H v t ∧ PySem.W.kitOne K t (.type "int") = some (isIntP p) := by
  refine ⟨_, h.ty, ?_⟩
  cases h with
  | undef h => exact T.kitO _ _ (by simp) (.inl rfl)
  | null => rfl
  | bool x => rfl
  | num i => rfl
  | str h q => exact T.kitO _ _ (by simp) (.inr (.inl rfl))
  | pstr s z c => rfl
  | arr i q l => rfl
  | obj h i q l => exact T.kitO _ _ (by simp) (.inr (.inr rfl))
theorem isi_list {v : V} {p : Plain} (h : PlAt T I H b v p) : ∃ t, TyX K H v t ∧ PySem.W.kitOne K t (.type "list") = some (isArrP p) := by
  refine ⟨_, h.ty, ?_⟩
  cases h with
  | undef h => exact T.kitO _ _ (by simp) (.inl rfl)
  | null => rfl
  | bool x => rfl
  | num i => rfl
  | str h q => exact T.kitO _ _ (by simp) (.inr (.inl rfl))
  | pstr s z c => rfl
  | arr i q l => rfl
  | obj h i q l => exact T.kitO _ _ (by simp) (.inr (.inr rfl))
theorem isi_str {v : V} {p : Plain} (h : PlAt T I H b v p) : ∃ t, TyX K H v t ∧ PySem.W.kitOne K t (.type "str") = some (isStrP v p) := by
  refine ⟨_, h.ty, ?_⟩
  cases h with
  | undef h => exact T.kitO _ _ (by simp) (.inl rfl)
  | null => rfl
  | bool x => rfl
  | num i => rfl
  | str h q => exact T.kitO _ _ (by simp) (.inr (.inl rfl))
  | pstr s z c => rfl
  | arr i q l => rfl
  | obj h i q l => exact T.kitO _ _ (by simp) (.inr (.inr rfl))
theorem isi_Nothing {v : V} {p : Plain} (h : PlAt T I H b v p) : ∃ t, TyX K H v t ∧ PySem.W.kitOne K t (.ref T.Nothing) = some (isUndP p) := by
  refine ⟨_, h.ty, ?_⟩
  cases h with
  | undef h => exact kit_self _
  | null => exact T.kitB _ _ (by simp) (.inl rfl)
  | bool x => exact T.kitB _ _ (by simp) (.inl rfl)
  | num i => exact T.kitB _ _ (by simp) (.inl rfl)
  | str h q => exact T.kitE _ _ (.inr (.inl rfl)) (.inl rfl) T.neNT.symm
  | pstr s z c => exact T.kitB _ _ (by simp) (.inl rfl)
  | arr i q l => exact T.kitB _ _ (by simp) (.inl rfl)
  | obj h i q l => exact T.kitE _ _ (.inr (.inr rfl)) (.inl rfl) T.neNR.symm
theorem isi_Text {v : V} {p : Plain} (h : PlAt T I H b v p) : ∃ t, TyX K H v t ∧ PySem.W.kitOne K t (.ref T.Text) = some (isTxtP v p) := by
  refine ⟨_, h.ty, ?_⟩
  cases h with
  | undef h => exact T.kitE _ _ (.inl rfl) (.inr (.inl rfl)) T.neNT
  | null => exact T.kitB _ _ (by simp) (.inr (.inl rfl))
  | bool x => exact T.kitB _ _ (by simp) (.inr (.inl rfl))
  | num i => exact T.kitB _ _ (by simp) (.inr (.inl rfl))
  | str h q => exact kit_self _
  | pstr s z c => exact T.kitB _ _ (by simp) (.inr (.inl rfl))
  | arr i q l => exact T.kitB _ _ (by simp) (.inr (.inl rfl))
  | obj h i q l => exact T.kitE _ _ (.inr (.inr rfl)) (.inr (.inl rfl)) T.neTR.symm
theorem isi_Record {v : V} {p : Plain} (h : PlAt T I H b v p) : ∃ t, TyX K H v t ∧ PySem.W.kitOne K t (.ref T.Record) = some (isObjP p) := by
  refine ⟨_, h.ty, ?_⟩
  cases h with
  | undef h => exact T.kitE _ _ (.inl rfl) (.inr (.inr rfl)) T.neNR
  | null => exact T.kitB _ _ (by simp) (.inr (.inr rfl))
  | bool x => exact T.kitB _ _ (by simp) (.inr (.inr rfl))
  | num i => exact T.kitB _ _ (by simp) (.inr (.inr rfl))
  | str h q => exact T.kitE _ _ (.inr (.inl rfl)) (.inr (.inr rfl)) T.neTR
  | pstr s z c => exact T.kitB _ _ (by simp) (.inr (.inr rfl))
  | arr i q l => exact T.kitB _ _ (by simp) (.inr (.inr rfl))
  | obj h i q l => exact kit_self _
end
end SP

/-! ## SP5 -/
set_option maxHeartbeats 4000000
namespace SP
open PySem PySem.Spec PyProof.Rows L2 SB
section
variable {K : PySem.W.Frag} {mg : Str → Option Value} (T : TX K mg)
/-- a text of the program: of octets below 128 -/
def asc (s : Str) : Prop := ∀ c ∈ s.cps.toList, c < 128
def strT (s : Str) : List V := s.cps.toList.map fun (c : Nat) => intT c
def ustr (s : Str) : Units := s.cps.toList.map UInt16.ofNat
theorem mk_same {H1 H3 : Hp} {x dx C : Addr} (hx : H1 x = none) (hd : H1 dx = none) (c : Chg (· = x) (upd (upd H1 dx (.own x)) x (.ins C dx [])) H3) : Same H1 H3 := fun b u e => by
  have n1 := ne_of_none e hx
  have n2 := ne_of_none e hd
  exact c b u (by rw [upd_ne n1, upd_ne n2]; exact e) n1

/-! ### values.py: the promises -/
def isNumP : Plain → Bool
  | .num _ => true
  | _ => false
def sp_is_integer : Sp := fun vs H Q _ => ∃ (v : V) (p : Plain) (b : Bool) (I : Addr → Prop), vs = [v] ∧ PlAt T I H b v p ∧ Q (.bl (isNumP p)) H
def sp_Nothing___init__ : Sp := fun vs H Q _ => ∃ (x dx : Addr), vs = [.ref x] ∧ H x = some (.ins T.Nothing dx []) ∧ ∀ (H' : Hp) (e : Addr), Chg (· = x) H H' → H' x = some (.ins T.Nothing dx [("octets", .ref e)]) → Q .non H'
def sp_Text___init__ : Sp := fun vs H Q _ => ∃ (x dx : Addr) (o : V), vs = [.ref x, o] ∧ H x = some (.ins T.Text dx []) ∧ ∀ (H' : Hp), Chg (· = x) H H' → H' x = some (.ins T.Text dx [("octets", o)]) → Q .non H'
def sp_Record___init__ : Sp := fun vs H Q _ => ∃ (x dx : Addr) (o : V), vs = [.ref x, o] ∧ H x = some (.ins T.Record dx []) ∧ ∀ (H' : Hp), Chg (· = x) H H' → H' x = some (.ins T.Record dx [("members", o)]) → Q .non H'
def sp_octets_of (T : TX K mg) : Sp := fun vs H Q _ => ∃ (s : Str), vs = [.str s] ∧ asc s ∧ s.cps.size ≤ 70000 ∧ ∀ (H' : Hp) (D : Addr), Same H H' → H D = none → H' D = some (.lst (strT s)) → Q (.ref D) H'
/-- all of I is there -/
def Al (I : Addr → Prop) (H : Hp) : Prop := ∀ a, I a → H a ≠ none
def sp_record : Sp := fun vs H Q _ => ∃ (na va : Addr) (ns : List Str) (xs : List V) (ps : List Plain) (I : Addr → Prop), vs = [.ref na, .ref va] ∧ SqL K H na (ns.map V.str) ∧ SqL K H va xs ∧ PlsAt T I H true xs ps ∧ Al I H ∧ ns.length = ps.length ∧ ns.length ≤ 100 ∧ (∀ s ∈ ns, asc s ∧ s.cps.size ≤ 70000) ∧
  ∀ (H' : Hp) (r : V), Same H H' → PlAt T (New I H H') H' true r (.obj ((ns.map ustr).zip ps)) → Q r H'
def sp_number_in (T : TX K mg) : Sp := fun vs H Q _ => ∃ (a : Addr) (os : List UInt8), vs = [.ref a] ∧ SqL K H a (os.map octT) ∧ ∀ H', Same H H' → Q (intT (RWire.numOf os)) H'
def sp_number_out (T : TX K mg) : Sp := fun vs H Q _ => ∃ (n many : Nat), vs = [intT n, intT many] ∧ many ≤ 100 ∧ ∀ (H' : Hp) (D : Addr), Same H H' → H D = none → H' D = some (.lst ((RWire.low many n).map octT)) → Q (.ref D) H'
/-- a request that is read: what is left of it -/
def RowAt (H : Hp) (r o : Addr) (os rest : List UInt8) : Prop := ∃ (dx : Addr) (p : Nat), H r = some (.ins T.Row dx [("octets", .ref o), ("place", intT p)]) ∧ H o = some (.lst (os.map octT)) ∧ os.drop p = rest ∧ os.length ≤ 61000 ∧ p ≤ os.length
def sp_Row___init__ : Sp := fun vs H Q _ => ∃ (x dx o : Addr) (os : List UInt8), vs = [.ref x, .ref o] ∧ H x = some (.ins T.Row dx []) ∧ H o = some (.lst (os.map octT)) ∧ os.length ≤ 61000 ∧ ∀ H', Chg (· = x) H H' → RowAt T H' x o os os → Q .non H'
def sp_Row_take : Sp := fun vs H Q _ => ∃ (r o : Addr) (os rest : List UInt8) (many : Nat) (x rest' : List UInt8), vs = [.ref r, intT many] ∧ RowAt T H r o os rest ∧ RWire.front many rest = some (x, rest') ∧
  ∀ (H' : Hp) (D : Addr), Chg (· = r) H H' → RowAt T H' r o os rest' → H D = none → H' D = some (.lst (x.map octT)) → Q (.ref D) H'
def sp_Row_count : Sp := fun vs H Q _ => ∃ (r o : Addr) (os rest : List UInt8) (n : Nat) (rest' : List UInt8), vs = [.ref r] ∧ RowAt T H r o os rest ∧ RWire.readNum 4 rest = some (n, rest') ∧ ∀ H', Chg (· = r) H H' → RowAt T H' r o os rest' → Q (intT n) H'
def spl_Row_one_value (n : Nat) : Sp := fun vs H Q _ => ∃ (r o : Addr) (os rest : List UInt8) (v : RWire.Value) (rest' : List UInt8), vs = [.ref r] ∧ RowAt T H r o os rest ∧ RWire.readF n rest = some (v, rest') ∧ RWire.noBig v = true ∧ RWire.noOctets v = true ∧ RWire.noWide v = true ∧
  ∀ (H' : Hp) (x : V), Chg (· = r) H H' → RowAt T H' r o os rest' → PlAt T (FreshA H H') H' false x (Rust.taken v) → Q x H'
def sp_Row_one_value : Sp := spl_Row_one_value T 32
def sp_read_request : Sp := fun vs H Q _ => ∃ (o : Addr) (os : List UInt8) (d : Nat) (l : List RWire.Value), vs = [.ref o] ∧ H o = some (.lst (os.map octT)) ∧ os.length ≤ 61000 ∧ RWire.readRequest os = some (d, l) ∧ Rust.ofKinds l = true ∧
  ∀ (H' : Hp) (p aa : Addr) (avs : List V), Same H H' → SqT K H' p [intT d, .ref aa] → H aa = none → H' aa = some (.lst avs) → PlsAt T (fun b => FreshA H H' b ∧ b ≠ aa) H' false avs (Rust.takenAll l) → Q (.ref p) H'
def sp_text_out (T : TX K mg) : Sp := fun vs H Q _ => ∃ (a : Addr) (os : List UInt8), vs = [.ref a] ∧ (SqL K H a (os.map octT) ∨ SqT K H a (os.map octT)) ∧ os.length ≤ 70000 ∧ ∀ (H' : Hp) (D : Addr), Same H H' → H D = none → H' D = some (.lst ((RWire.writeText os).map octT)) → Q (.ref D) H'
def spl_value_out (n : Nat) : Sp := fun vs H Q _ => ∃ (v : V) (p : Plain) (I : Addr → Prop), vs = [v] ∧ PlAt T I H true v p ∧ Al I H ∧ Rust.narrow p = true ∧ RWire.depth (Rust.given p) ≤ n ∧ RWire.fine (Rust.given p) = true ∧ (RWire.write (Rust.given p)).length ≤ 65536 ∧
  ∀ (H' : Hp) (D : Addr), Same H H' → H D = none → H' D = some (.lst ((RWire.write (Rust.given p)).map octT)) → Q (.ref D) H'
def sp_value_out : Sp := spl_value_out T 32
def sp_refuse : Sp := fun vs H _ E => ∃ (k : Int) (s : Str), vs = [.int k, .str s] ∧ ∀ (H' : Hp) (d : Addr), Same H H' → H' d = some (.xd [("message", .str s), ("kind", .int k)]) → E (.ref T.Refused) (some d) H'
end
end SP

/-! ## V1 -/
set_option maxHeartbeats 4000000
namespace SP
open PySem PySem.Spec PyProof.Rows L2 SB
open SS (VC VG R Sz RateOk treeW ratesOf leadsTo)
open R7244e.Spec (reachable recurrentStates hasOneClass canMeet distribution wordProb endState coverage separation unstopped stopProbs survival entry target)
section
variable {P : Program} {w : World} {base : Heap}
variable {K : PySem.W.Frag} {mg : Str → Option Value}

theorem al_new {I : Addr → Prop} {H H' : Hp} (s : Same H H') (h : Al I H) : Al (New I H H') H' := by
  intro a i
  rcases i with i | i
  · cases e : H a with
    | none => exact absurd e (h a i)
    | some o => rw [s _ _ e]; simp
  · exact i.2
theorem al_same {I : Addr → Prop} {H H' : Hp} (s : Same H H') (h : Al I H) : Al I H' := by
  intro a i
  cases e : H a with
  | none => exact absurd e (h a i)
  | some o => rw [s _ _ e]; simp
theorem keeps_upd {I J : Addr → Prop} {H : Hp} {D : Addr} {ys zs : List V} (hD : H D = some (.lst ys)) (j : ∀ a, I a → J a) (n : ∀ a, I a → a ≠ D) : Keeps K I J H (upd H D (.lst zs)) := by
  have o : Off (· = D) (fun b => b ≠ D) H := offL hD (fun z => z rfl)
  have c : Chg (· = D) H (upd H D (.lst zs)) := chg1
  exact ⟨j, fun a C dx f v h => c _ _ h (fun z => by rw [z, hD] at h; cases h), fun a xs h => o.sqT c h, fun a xs i h => o.sqL c (n a i) h⟩
theorem front_eq : ∀ {k : Nat} {r x r' : List UInt8}, RWire.front k r = some (x, r') → k ≤ r.length ∧ x = r.take k ∧ r' = r.drop k
  | 0, r, x, r', h => by
    cases h
    exact ⟨Nat.zero_le _, rfl, rfl⟩
  | k + 1, [], x, r', h => by cases h
  | k + 1, a :: r, x, r', h => by
    unfold RWire.front at h
    cases e : RWire.front k r with
    | none => rw [e] at h; cases h
    | some p =>
      rw [e] at h
      cases h
      obtain ⟨h1, h2, h3⟩ := front_eq (k := k) (r := r) (x := p.1) (r' := p.2) e
      refine ⟨by rw [List.length_cons]; omega, ?_, ?_⟩
      · rw [List.take_succ_cons, h2]
      · rw [List.drop_succ_cons, h3]
theorem low_succ : ∀ (k n : Nat), RWire.low (k + 1) n = RWire.low k n ++ [UInt8.ofNat (n / 256 ^ k)]
  | 0, n => by simp [RWire.low]
  | k + 1, n => by
    have e : RWire.low (k + 1 + 1) n = UInt8.ofNat n :: RWire.low (k + 1) (n / 256) := rfl
    rw [e, low_succ k (n / 256), Nat.div_div_eq_div_mul, Nat.pow_succ, Nat.mul_comm (256 ^ k) 256]
    rfl
theorem low_len : ∀ (k n : Nat), (RWire.low k n).length = k
  | 0, n => rfl
  | k + 1, n => by
    show (RWire.low k (n / 256)).length + 1 = _
    rw [low_len k]
theorem octT_ofNat (m : Nat) : octT (UInt8.ofNat m) = intT (m % 256) := by
  unfold octT
  rw [UInt8.toNat_ofNat']
theorem numOf_drop {os : List UInt8} {i : Nat} {o : UInt8} (h : os[i]? = some o) : RWire.numOf (os.drop i) = o.toNat + 256 * RWire.numOf (os.drop (i + 1)) := by
  obtain ⟨hi, rfl⟩ := List.getElem?_eq_some_iff.mp h
  rw [List.drop_eq_getElem_cons hi]
  rfl
theorem octs_get {os : List UInt8} {i : Nat} {x : V} (h : (os.map octT)[i]? = some x) : ∃ o, os[i]? = some o ∧ x = octT o := by
  rw [List.getElem?_map] at h
  cases e : os[i]? with
  | none => rw [e] at h; cases h
  | some x => rw [e] at h; exact ⟨x, rfl, (Option.some.inj h).symm⟩
theorem intT_addc (a b : Nat) : intT (a + b) = V.int (((a : Nat) : Int) + ((b : Nat) : Int)) := by rw [intT, Int.natCast_add]
theorem take_snoc0 : True := trivial
abbrev s_is_integer : Stmt := topS 24
theorem sc_is_integer : FnScope ["value"] ["value"] (defScope s_is_integer) := SB.sc_by (by decide +kernel)
theorem len_is_integer {T : TX K mg} : ∀ vs H Q E, sp_is_integer T vs H Q E → vs.length = (["value"] : List Str).length := by
  rintro _ H Q E ⟨_, _, _, _, rfl, _⟩
  rfl
theorem ok_is_integer (T : TX K mg)   {f : Addr} {fd : FuncData} (F : Fun K "is_integer" "is_integer" s_is_integer f fd) : FnOk P w K mg base CX0 1 f fd ["value"] (sp_is_integer T) := by
  refine F.ok sc_is_integer len_is_integer (fun cdv A outer s H vs Q E hr h => ⟨_, (pss_one (ps_ret (pe_and (pe_callB (SB.kIsi (K := K) rfl) (by rfl) T.b_isinstance (by decide +kernel) (pa_cons (pv 0) (pa_cons (pe_bltn (v := .ty "int") (u := .type "int") (by rfl) T.b_int (by decide +kernel) rfl) pa_nil))) (pe_and (pe_cmpR op_notX (pv 0) pe_bl (nomark _)) (pe_one (pe_cmpR op_notX (pv 0) pe_bl (nomark _))))))), ?_⟩)
  obtain ⟨v, p, b, I, rfl, hp, q⟩ := h
  obtain ⟨t, ty, ek⟩ := isi_int hp
  have nn : isNumP p = (isIntP p && (!decide (v = .bl true) && !decide (v = .bl false))) := by
    cases hp with
    | bool x => cases x <;> simp [isNumP, isIntP]
    | _ => simp [isNumP, isIntP]
  refine ⟨_, rfl, v, .ty "int", t, .type "int", isIntP p, rfl, .ty "int", ty, ek, _, rfl, ?_⟩
  refine ite2 (fun c1 => ?_) (fun c1 => ?_)
  · refine ⟨_, rfl, true, rfl, _, rfl, ?_⟩
    refine ite2 (fun c2 => ?_) (fun c2 => ?_)
    · have e : isNumP p = !decide (v = .bl false) := by rw [nn, c1, c2]; rfl
      rw [e] at q
      exact ⟨_, rfl, false, rfl, q⟩
    · have c2 : (!decide (v = .bl true)) = false := by simpa using c2
      rw [nn, c1, c2] at q
      exact q
  · have c1 : isIntP p = false := by simpa using c1
    rw [nn, c1] at q
    exact q
abbrev s_Nothing___init__ : Stmt := inClass (topS 25) 0
theorem sc_Nothing___init__ : FnScope ["self"] ["self"] (defScope s_Nothing___init__) := SB.sc_by (by decide +kernel)
theorem len_Nothing___init__ {T : TX K mg} : ∀ vs H Q E, sp_Nothing___init__ T vs H Q E → vs.length = (["self"] : List Str).length := by
  rintro _ H Q E ⟨_, _, rfl, _⟩
  rfl
theorem ok_Nothing___init__ (T : TX K mg)   {f : Addr} {fd : FuncData} (F : Fun K "__init__" "Nothing.__init__" s_Nothing___init__ f fd) : FnOk P w K mg base CX0 1 f fd ["self"] (sp_Nothing___init__ T) := by
  refine F.ok sc_Nothing___init__ len_Nothing___init__ (fun cdv A outer s H vs Q E hr h => ⟨_, (pss_one (ps_fld (pv 0) (pe_tup pa_nil) rfl)), ?_⟩)
  obtain ⟨x, dx, rfl, hx, q⟩ := h
  refine ⟨le_line (by show 0 ≤ _; decide), fun e he => ⟨_, rfl, x, T.Nothing, dx, [], rfl, upd_keep hx he, T.clNothing, T.nNothing_octets, by decide, ?_⟩⟩
  rw [pnNothing_octets]
  exact q _ e (chg_upd (chg_upd (Chg.refl H) (.inl he)) (.inr rfl)) upd_same
abbrev s_Text___init__ : Stmt := inClass (topS 26) 0
theorem sc_Text___init__ : FnScope ["self", "octets"] ["self", "octets"] (defScope s_Text___init__) := SB.sc_by (by decide +kernel)
theorem len_Text___init__ {T : TX K mg} : ∀ vs H Q E, sp_Text___init__ T vs H Q E → vs.length = (["self", "octets"] : List Str).length := by
  rintro _ H Q E ⟨_, _, _, rfl, _⟩
  rfl
theorem ok_Text___init__ (T : TX K mg)   {f : Addr} {fd : FuncData} (F : Fun K "__init__" "Text.__init__" s_Text___init__ f fd) : FnOk P w K mg base CX0 1 f fd ["self", "octets"] (sp_Text___init__ T) := by
  refine F.ok sc_Text___init__ len_Text___init__ (fun cdv A outer s H vs Q E hr h => ⟨_, (pss_one (ps_fld (pv 0) (pv 1) rfl)), ?_⟩)
  obtain ⟨x, dx, o, rfl, hx, q⟩ := h
  refine ⟨_, rfl, _, rfl, x, T.Text, dx, [], rfl, hx, T.clText, T.nText_octets, by decide, ?_⟩
  rw [pnText_octets]
  exact q _ chg1 upd_same
abbrev s_Record___init__ : Stmt := inClass (topS 27) 0
theorem sc_Record___init__ : FnScope ["self", "members"] ["self", "members"] (defScope s_Record___init__) := SB.sc_by (by decide +kernel)
theorem len_Record___init__ {T : TX K mg} : ∀ vs H Q E, sp_Record___init__ T vs H Q E → vs.length = (["self", "members"] : List Str).length := by
  rintro _ H Q E ⟨_, _, _, rfl, _⟩
  rfl
theorem ok_Record___init__ (T : TX K mg)   {f : Addr} {fd : FuncData} (F : Fun K "__init__" "Record.__init__" s_Record___init__ f fd) : FnOk P w K mg base CX0 1 f fd ["self", "members"] (sp_Record___init__ T) := by
  refine F.ok sc_Record___init__ len_Record___init__ (fun cdv A outer s H vs Q E hr h => ⟨_, (pss_one (ps_fld (pv 0) (pv 1) rfl)), ?_⟩)
  obtain ⟨x, dx, o, rfl, hx, q⟩ := h
  refine ⟨_, rfl, _, rfl, x, T.Record, dx, [], rfl, hx, T.clRecord, T.nRecord_members, by decide, ?_⟩
  rw [pnRecord_members]
  exact q _ chg1 upd_same
abbrev s_octets_of : Stmt := topS 28
theorem sc_octets_of : FnScope ["word", "sign"] ["word"] (defScope s_octets_of) := SB.sc_by (by decide +kernel)
theorem len_octets_of {T : TX K mg} : ∀ vs H Q E, sp_octets_of T vs H Q E → vs.length = (["word"] : List Str).length := by
  rintro _ H Q E ⟨_, rfl, _⟩
  rfl
theorem ok_octets_of (T : TX K mg)   {f : Addr} {fd : FuncData} (F : Fun K "octets_of" "octets_of" s_octets_of f fd) : FnOk P w K mg base CX0 1 f fd ["word"] (sp_octets_of T) := by
  refine F.ok sc_octets_of len_octets_of (fun cdv A outer s H vs Q E hr h => ⟨_, (pss_one (ps_ret (pe_lc (own := [("sign", 1)]) (g := (gName 1)) (tt := tYes) (by rfl) sc_octets_of.nd (pi_str (pv 0)) (blkOk_by (own := [("sign", 1)]) (N := ["word", "sign"]) (sc := (defScope s_octets_of)) (by decide +kernel)) (fun _ _ _ _ _ => (pg_name (i := 1) sc_octets_of.nd rfl (by first | exact Or.inl rfl | exact Or.inr rfl))) (fun _ _ _ _ _ => pts_nil) (fun _ _ _ _ _ => (pe_callB call_ord (by rfl) T.b_ord (by decide +kernel) (pa_cons (pv 1) pa_nil)))))), ?_⟩)
  obtain ⟨s0, rfl, ha, hz, q⟩ := h
  refine ⟨_, rfl, s0, rfl, fun D hD => ?_⟩
  refine lc_it (walk_str (z := s0)) (fun j H3 => Same H H3 ∧ H3 D = some (.lst ((s0.cps.toList.take j).map fun (c : Nat) => intT c))) ⟨same_upd hD, upd_same⟩ (fun _ _ _ _ => trivial) ?_ ?_
  · rintro j x H3 H4 hj ⟨s3, h3⟩ ⟨rfl, c, hc, rfl⟩
    have hc : s0.cps.toList[j]? = some c := by simpa using hc
    refine ⟨rfl, lcYes ⟨_, rfl, ⟨#[c]⟩, rfl, rfl, _, h3, ?_, same_upd2 s3 hD, ?_⟩⟩
    · rw [List.length_map, List.length_take]
      exact lt_line (by omega)
    · rw [upd_same, take_map_succ hc]
      rfl
  · rintro H3 ⟨s3, h3⟩
    rw [List.take_of_length_le (by simp)] at h3
    exact q H3 D s3 hD h3
abbrev s_record : Stmt := topS 29
theorem sc_record : FnScope ["names", "values", "name", "value"] ["names", "values"] (defScope s_record) := SB.sc_by (by decide +kernel)
theorem len_record {T : TX K mg} : ∀ vs H Q E, sp_record T vs H Q E → vs.length = (["names", "values"] : List Str).length := by
  rintro _ H Q E ⟨_, _, _, _, _, _, rfl, _⟩
  rfl
theorem ok_record (T : TX K mg) (c_octets_of : SB.Cal P w K mg base 1 "octets_of" (sp_octets_of T)) (m_Record : SB.Mak P w K mg base 1 "Record" T.Record (sp_Record___init__ T))  {f : Addr} {fd : FuncData} (F : Fun K "record" "record" s_record f fd) : FnOk P w K mg base CX0 3 f fd ["names", "values"] (sp_record T) := by
  refine F.ok sc_record len_record (fun cdv A outer s H vs Q E hr h => ⟨_, (pss_one (ps_ret (SB.mak m_Record hr (by decide) rfl (pa_cons (pe_lc (own := [("name", 2), ("value", 3)]) (g := (gTup K 2 (gCons (gName 2) (gCons (gName 3) gNil)))) (tt := tYes) (by rfl) sc_record.nd (pi_zip (by rfl) T.b_zip (pa_cons (pv 0) (pa_cons (pv 1) pa_nil))) (blkOk_by (own := [("name", 2), ("value", 3)]) (N := ["names", "values", "name", "value"]) (sc := (defScope s_record)) (by decide +kernel)) (fun _ _ _ _ _ => (pg_tup (by rfl) (pgs_cons (pg_name (i := 2) sc_record.nd rfl (by first | exact Or.inl rfl | exact Or.inr rfl)) (pgs_cons (pg_name (i := 3) sc_record.nd rfl (by first | exact Or.inl rfl | exact Or.inr rfl)) pgs_nil)))) (fun _ _ _ _ _ => pts_nil) (fun _ _ _ _ _ => (pe_tup (pa_cons (SB.cal c_octets_of hr (by decide) rfl (pa_cons (pv 2) pa_nil)) (pa_cons (pv 3) pa_nil))))) pa_nil)))), ?_⟩)
  obtain ⟨na, va, ns, xs, ps, I, rfl, hn, hv, hp, al, hl, h100, hs, q⟩ := h
  have lx := hp.len
  refine ⟨_, rfl, _, rfl, na, va, _, _, rfl, hn, hv, fun D hD => ?_⟩
  refine lc_it (walk_zip (n := ps.length) (xs := ns.map V.str) (ys := xs) (by rw [List.length_map]; omega)) (fun j H3 => Same H H3 ∧ ∃ ms, H3 D = some (.lst ms) ∧ FsAt T (fun b => New I H H3 b ∧ b ≠ D) H3 true ms (((ns.map ustr).zip ps).take j))
    ⟨same_upd hD, [], upd_same, .nil⟩ (fun j H3 _ ⟨s3, _⟩ => ⟨Same.seq s3 hn, Same.seq s3 hv⟩) ?_ ?_
  · rintro j x H3 H4 hj ⟨s3, ms, h3, f3⟩ ⟨Tp, x1, y1, rfl, hT, rfl, e1, e2⟩
    obtain ⟨s0, es, rfl⟩ := get_map (show (ns.map V.str)[j]? = some x1 from e1)
    obtain ⟨p, ep, fp⟩ := hp.get' e2
    have s34 : Same H3 (upd H3 Tp (.tup [.str s0, y1])) := same_upd hT
    have hTp : upd H3 Tp (.tup [.str s0, y1]) Tp = some (.tup [.str s0, y1]) := upd_same
    generalize upd H3 Tp (.tup [.str s0, y1]) = H4 at s34 hTp ⊢
    obtain ⟨ha, hz⟩ := hs s0 (List.mem_of_getElem? es)
    refine ⟨Tp, _, rfl, SqT.of hTp, rfl, _, _, rfl, _, _, rfl, rfl, rfl, lcYes ⟨_, rfl, s0, rfl, ha, hz, fun H5 E5 s5 n5 h5 => ⟨_, rfl, le_line (by show 2 ≤ _; decide), fun P hP => ?_⟩⟩⟩
    have s56 : Same H5 (upd H5 P (.tup [.ref E5, y1])) := same_upd hP
    have hPt : upd H5 P (.tup [.ref E5, y1]) P = some (.tup [.ref E5, y1]) := upd_same
    generalize upd H5 P (.tup [.ref E5, y1]) = H6 at s56 hPt ⊢
    have s36 := s34.trans (s5.trans s56)
    have h6 := s36 _ _ h3
    have nE : E5 ≠ D := fun z => by rw [z, s34 _ _ h3] at n5; cases n5
    have nE0 : H E5 = none := s3.free (s34.free n5)
    have fr : ∀ b H7, Same H6 H7 → New I H H3 b ∧ b ≠ D → New I H H7 b ∧ b ≠ D := by
      intro b H7 s7 ⟨hb, ne⟩
      refine ⟨?_, ne⟩
      rcases hb with hb | hb
      · exact .inl hb
      · refine .inr ⟨hb.1, fun z => hb.2 (s36.free (s7.free z))⟩
    have fs6 : FsAt T (fun b => New I H H6 b ∧ b ≠ D) H6 true (ms ++ [.ref P]) (((ns.map ustr).zip ps).take (j + 1)) := by
      have eg : ((ns.map ustr).zip ps)[j]? = some (ustr s0, p) := by
        rw [List.getElem?_zip_eq_some]
        exact ⟨map_get es, ep⟩
      rw [take_snoc eg]
      refine FsAt.snoc (SqT.of hPt) ⟨.inr ⟨nE0, by rw [s56 _ _ h5]; simp⟩, nE⟩ ?_ ?_ (FsAt.keep (keeps_same s36 fun b hb => fr b H6 (Same.refl H6) hb) (fun z => z) f3)
      · have e : (ustr s0).map unitT = strT s0 := by
          unfold ustr strT
          rw [List.map_map]
          refine List.map_congr_left fun c hc => ?_
          have := ha c hc
          show intT (UInt16.ofNat c).toNat = intT c
          rw [UInt16.toNat_ofNat', Nat.mod_eq_of_lt (by omega)]
        rw [e]
        exact SqL.of (s56 _ _ h5)
      · refine (fp.same (s3.trans s36)).mono fun b hb => ⟨.inl hb, fun z => al b hb (z ▸ hD)⟩
    refine ⟨ms, h6, lt_line ?_, same_upd2 (s3.trans s36) hD, _, upd_same, FsAt.keep (keeps_upd h6 (fun b hb => ⟨?_, hb.2⟩) (fun b hb => hb.2)) (fun z => z) fs6⟩
    · have := f3.len
      rw [List.length_take] at this
      omega
    · rcases hb.1 with i | i
      · exact .inl i
      · refine .inr ⟨i.1, fun z => i.2 (free_upd z)⟩
  · rintro H3 ⟨s3, ms, h3, f3⟩
    rw [List.take_of_length_le (by rw [List.length_zip, List.length_map]; omega)] at f3
    intro x dx hx hdx nd
    refine ⟨x, dx, .ref D, rfl, upd_same, fun H4 c4 h4 => ⟨rfl, ?_⟩⟩
    have s4 := mk_same hx hdx c4
    refine q H4 _ (s3.trans s4) (.obj h4 (.inr ⟨hD, by rw [s4 _ _ h3]; simp⟩) (SqL.of (s4 _ _ h3)) (FsAt.keep (keeps_same s4 fun b hb => ?_) (fun z => z) f3))
    rcases hb.1 with i | i
    · exact .inl i
    · exact .inr ⟨i.1, fun z => i.2 (s4.free z)⟩
abbrev s_number_in : Stmt := topS 30
theorem sc_number_in : FnScope ["octets", "told", "octet"] ["octets"] (defScope s_number_in) := SB.sc_by (by decide +kernel)
theorem len_number_in {T : TX K mg} : ∀ vs H Q E, sp_number_in T vs H Q E → vs.length = (["octets"] : List Str).length := by
  rintro _ H Q E ⟨_, _, rfl, _⟩
  rfl
theorem ok_number_in (T : TX K mg)   {f : Addr} {fd : FuncData} (F : Fun K "number_in" "number_in" s_number_in f fd) : FnOk P w K mg base CX0 1 f fd ["octets"] (sp_number_in T) := by
  refine F.ok sc_number_in len_number_in (fun cdv A outer s H vs Q E hr h => ⟨_, (pss_cons (ps_set (i := 1) sc_number_in.nd rfl (by first | exact Or.inl rfl | exact Or.inr rfl) pe_int) (pss_cons (ps_for (by first | exact PassesOwn.never | exact passes_of rfl) rfl (pi_reversed (by rfl) T.b_reversed (pa_cons (pv 0) pa_nil)) (pg_name (i := 2) sc_number_in.nd rfl (by first | exact Or.inl rfl | exact Or.inr rfl)) (pss_one (ps_set (i := 1) sc_number_in.nd rfl (by first | exact Or.inl rfl | exact Or.inr rfl) (pe_op op_add (pe_op op_mul (pv 1) pe_int) (pv 2))))) (pss_one (ps_ret (pv 1))))), ?_⟩)
  obtain ⟨a, os, rfl, ha, q⟩ := h
  refine ⟨_, rfl, a, _, rfl, ha, ?_⟩
  refine for_it (walk_rev (K := K) (a := a) (xs := os.map octT)) (fun j σ H' => ∃ o : Option V, σ = [some (.ref a), some (intT (RWire.numOf (os.drop (os.length - j)))), o] ∧ H' = H) ⟨none, ?_, rfl⟩ (fun j σ H' _ ⟨_, _, e⟩ => e ▸ ha) ?_ ?_
  · rw [Nat.sub_zero, List.drop_of_length_le (Nat.le_refl _)]
    rfl
  · rintro j x σ H' H2 hj ⟨o, rfl, rfl⟩ ⟨rfl, ex⟩
    rw [List.length_map] at hj ex
    obtain ⟨z, hz, rfl⟩ := octs_get ex
    have e := numOf_drop hz
    have e2 : os.length - 1 - j + 1 = os.length - j := by omega
    rw [e2] at e
    have e3 : os.length - (j + 1) = os.length - 1 - j := by omega
    refine ⟨_, rfl, _, _, rfl, rfl, .inr ⟨by decide, by decide⟩, _, rfl, _, _, rfl, rfl, some (octT z), ?_, rfl⟩
    rw [e3, e, Nat.add_comm, Nat.mul_comm, intT_addc]
    rfl
  · rintro σ H' ⟨o, rfl, rfl⟩
    rw [List.length_map, Nat.sub_self, List.drop_zero]
    exact ⟨_, rfl, q H' (Same.refl H')⟩
abbrev s_number_out : Stmt := topS 31
theorem sc_number_out : FnScope ["number", "many", "told", "turn"] ["number", "many"] (defScope s_number_out) := SB.sc_by (by decide +kernel)
theorem len_number_out {T : TX K mg} : ∀ vs H Q E, sp_number_out T vs H Q E → vs.length = (["number", "many"] : List Str).length := by
  rintro _ H Q E ⟨_, _, rfl, _⟩
  rfl
theorem ok_number_out (T : TX K mg)   {f : Addr} {fd : FuncData} (F : Fun K "number_out" "number_out" s_number_out f fd) : FnOk P w K mg base CX0 1 f fd ["number", "many"] (sp_number_out T) := by
  refine F.ok sc_number_out len_number_out (fun cdv A outer s H vs Q E hr h => ⟨_, (pss_cons (ps_set (i := 2) sc_number_out.nd rfl (by first | exact Or.inl rfl | exact Or.inr rfl) (pe_lst pa_nil)) (pss_cons (ps_for (by first | exact PassesOwn.never | exact passes_of rfl) rfl (pi_range1 (by rfl) T.b_range (pa_cons (pv 1) pa_nil)) (pg_name (i := 3) sc_number_out.nd rfl (by first | exact Or.inl rfl | exact Or.inr rfl)) (pss_cons (ps_expr (pe_bm PySem.F.plainAttrs_list PySem.F.slot_list_append PySem.F.type_list_append mt_append (pv 2) (pa_cons (pe_op op_mod (pv 0) pe_int) pa_nil))) (pss_one (ps_set (i := 0) sc_number_out.nd rfl (by first | exact Or.inl rfl | exact Or.inr rfl) (pe_op op_fdiv (pv 0) pe_int))))) (pss_one (ps_ret (pv 2))))), ?_⟩)
  obtain ⟨n, many, rfl, hm, q⟩ := h
  refine ⟨le_line (by show 0 ≤ _; decide), fun D hD => ⟨_, rfl, _, rfl, by omega, by omega, ?_⟩⟩
  have en : (((many : Nat) : Int)).toNat = many := Int.toNat_natCast many
  rw [en]
  refine for_range (lo := 0) (n := many) (fun k σ H' => ∃ o : Option V, σ = [some (intT (n / 256 ^ k)), some (intT many), some (.ref D), o] ∧ Same H H' ∧ H' D = some (.lst ((RWire.low k n).map octT)))
    ⟨none, by rw [Nat.pow_zero, Nat.div_one]; rfl, same_upd hD, upd_same⟩ ?_ ?_
  · rintro k σ H2 hk ⟨o, rfl, s2, h2⟩
    refine ⟨_, rfl, .inl ⟨rfl, _, SqL.of h2⟩, _, rfl, _, _, rfl, rfl, (show (0 : Int) < 256 by decide), D, _, _, rfl, rfl, h2, ?_, _, rfl, _, _, rfl, rfl, ⟨by decide, by decide⟩, some (V.int ((0 : Int) + (k : Nat))), ?_, same_upd2 s2 hD, ?_⟩
    · rw [List.length_map, low_len]
      exact lt_line (by omega)
    · rw [Nat.pow_succ, ← Nat.div_div_eq_div_mul]
      rfl
    · rw [upd_same, low_succ, List.map_append, List.map_singleton, octT_ofNat]
      rfl
  · rintro σ H2 ⟨o, rfl, s2, h2⟩
    exact ⟨_, rfl, q H2 D s2 hD h2⟩
abbrev s_Row___init__ : Stmt := inClass (topS 32) 0
theorem sc_Row___init__ : FnScope ["self", "octets"] ["self", "octets"] (defScope s_Row___init__) := SB.sc_by (by decide +kernel)
theorem len_Row___init__ {T : TX K mg} : ∀ vs H Q E, sp_Row___init__ T vs H Q E → vs.length = (["self", "octets"] : List Str).length := by
  rintro _ H Q E ⟨_, _, _, _, rfl, _⟩
  rfl
theorem ok_Row___init__ (T : TX K mg)   {f : Addr} {fd : FuncData} (F : Fun K "__init__" "Row.__init__" s_Row___init__ f fd) : FnOk P w K mg base CX0 1 f fd ["self", "octets"] (sp_Row___init__ T) := by
  refine F.ok sc_Row___init__ len_Row___init__ (fun cdv A outer s H vs Q E hr h => ⟨_, (pss_cons (ps_fld (pv 0) (pv 1) rfl) (pss_one (ps_fld (pv 0) pe_int rfl))), ?_⟩)
  obtain ⟨x, dx, o, os, rfl, hx, ho, hl, q⟩ := h
  refine ⟨_, rfl, _, rfl, x, T.Row, dx, [], rfl, hx, T.clRow, T.nRow_octets, by decide, ?_⟩
  rw [pnRow_octets]
  refine ⟨_, rfl, x, T.Row, dx, _, rfl, upd_same, T.clRow, T.nRow_place, (show 1 < 1000 by decide), ?_⟩
  rw [pnRow_place]
  have c : Chg (· = x) H (upd (upd H x (.ins T.Row dx [("octets", .ref o)])) x (.ins T.Row dx [("octets", .ref o), ("place", .int 0)])) := chg_upd chg1 (.inr rfl)
  exact q _ c ⟨dx, 0, upd_same, c _ _ ho (fun z => by rw [z, hx] at ho; cases ho), rfl, hl, Nat.zero_le _⟩
theorem cut_mid (xs : List V) (p m : Nat) (h : p + m ≤ xs.length) : cutV xs (some ((p : Nat) : Int)) (some (((p : Nat) : Int) + ((m : Nat) : Int))) = (xs.drop p).take m := by
  have e : ((p : Nat) : Int) + ((m : Nat) : Int) = ((p + m : Nat) : Int) := by omega
  unfold cutV
  rw [e, HT.sIx_nat, HT.sIx_nat, Nat.min_eq_left h, Nat.min_eq_left (show p ≤ xs.length by omega)]
  congr 1
  omega
abbrev s_Row_take : Stmt := inClass (topS 32) 1
theorem sc_Row_take : FnScope ["self", "many", "begin"] ["self", "many"] (defScope s_Row_take) := SB.sc_by (by decide +kernel)
theorem len_Row_take {T : TX K mg} : ∀ vs H Q E, sp_Row_take T vs H Q E → vs.length = (["self", "many"] : List Str).length := by
  rintro _ H Q E ⟨_, _, _, _, _, _, _, rfl, _⟩
  rfl
theorem ok_Row_take (T : TX K mg)   {f : Addr} {fd : FuncData} (F : Fun K "take" "Row.take" s_Row_take f fd) : FnOk P w K mg base CX0 1 f fd ["self", "many"] (sp_Row_take T) := by
  refine F.ok sc_Row_take len_Row_take (fun cdv A outer s H vs Q E hr h => ⟨_, (pss_cons (ps_set (i := 2) sc_Row_take.nd rfl (by first | exact Or.inl rfl | exact Or.inr rfl) (SB.kFld (K := K) rfl (pv 0) rfl)) (pss_cons (ps_fld (pv 0) (pe_op op_add (pv 2) (pv 1)) rfl) (pss_one (ps_ret (pe_slice (SB.kSlL (K := K) rfl) (SB.kFld (K := K) rfl (pv 0) rfl) (po_some (pv 2)) (po_some (pe_op op_add (pv 2) (pv 1)))))))), ?_⟩)
  obtain ⟨r, o, os, rest, many, x, rest', rfl, ⟨dx, p, h0, ho, rfl, hl, hp⟩, hf, q⟩ := h
  obtain ⟨f1, rfl, rfl⟩ := front_eq hf
  rw [List.length_drop] at f1
  refine ⟨_, rfl, r, T.Row, _, _, _, rfl, h0, T.clRow, T.nRow_place, lkRow_place, _, rfl, _, rfl, _, _, rfl, rfl, _, rfl, r, T.Row, dx, _, rfl, h0, T.clRow, T.nRow_place, (show 2 < 1000 by decide), ?_⟩
  rw [pfRow_place]
  have c1 : Chg (· = r) H (upd H r (.ins T.Row dx [("octets", .ref o), ("place", .int (((p : Nat) : Int) + ((many : Nat) : Int)))])) := chg1
  have h1 : upd H r (.ins T.Row dx [("octets", .ref o), ("place", .int (((p : Nat) : Int) + ((many : Nat) : Int)))]) r = some (.ins T.Row dx [("octets", .ref o), ("place", .int (((p : Nat) : Int) + ((many : Nat) : Int)))]) := upd_same
  have ho1 := c1 _ _ ho (fun z => by rw [z, h0] at ho; cases ho)
  dsimp only at *
  generalize upd H r (.ins T.Row dx [("octets", .ref o), ("place", .int (((p : Nat) : Int) + ((many : Nat) : Int)))]) = H1 at c1 h1 ho1 ⊢
  refine ⟨_, rfl, r, T.Row, _, _, _, rfl, h1, T.clRow, T.nRow_octets, lkRow_octets, _, rfl, _, rfl, _, rfl, _, rfl, _, _, rfl, rfl, _, rfl, o, _, rfl, SqL.of ho1, fun D hD => ?_⟩
  rw [cut_mid _ _ _ (by rw [List.length_map]; omega), ← List.map_drop, ← List.map_take]
  have nD : H D = none := by
    cases e : H D with
    | none => rfl
    | some u =>
      have ne : D ≠ r := fun z => by rw [z, h1] at hD; cases hD
      rw [c1 _ _ e ne] at hD
      cases hD
  refine q _ D (c1.trans (Chg.of_same (same_upd hD))) ⟨dx, p + many, ?_, same_upd hD _ _ ho1, ?_, hl, by omega⟩ nD upd_same
  · have e : ((p : Nat) : Int) + ((many : Nat) : Int) = ((p + many : Nat) : Int) := by omega
    rw [e] at h1
    exact upd_keep h1 hD
  · rw [List.drop_drop]
abbrev s_Row_count : Stmt := inClass (topS 32) 2
theorem sc_Row_count : FnScope ["self"] ["self"] (defScope s_Row_count) := SB.sc_by (by decide +kernel)
theorem len_Row_count {T : TX K mg} : ∀ vs H Q E, sp_Row_count T vs H Q E → vs.length = (["self"] : List Str).length := by
  rintro _ H Q E ⟨_, _, _, _, _, _, rfl, _⟩
  rfl
theorem ok_Row_count (T : TX K mg) (c_number_in : SB.Cal P w K mg base 1 "number_in" (sp_number_in T)) (m_Row_take : SB.Met P w K mg base 1 T.Row "take" (sp_Row_take T))  {f : Addr} {fd : FuncData} (F : Fun K "count" "Row.count" s_Row_count f fd) : FnOk P w K mg base CX0 2 f fd ["self"] (sp_Row_count T) := by
  refine F.ok sc_Row_count len_Row_count (fun cdv A outer s H vs Q E hr h => ⟨_, (pss_one (ps_ret (SB.cal c_number_in hr (by decide) rfl (pa_cons (SB.met m_Row_take hr (by decide) (pv 0) (pa_cons pe_int pa_nil)) pa_nil)))), ?_⟩)
  obtain ⟨r, o, os, rest, n, rest', rfl, hr0, hf, q⟩ := h
  unfold RWire.readNum at hf
  cases e : RWire.front 4 rest with
  | none => rw [e] at hf; cases hf
  | some p =>
    rw [e] at hf
    cases hf
    obtain ⟨dx, p0, h0, _⟩ := id hr0
    exact ⟨_, rfl, r, _, _, rfl, h0, noRow_take, r, o, os, rest, 4, p.1, p.2, rfl, hr0, e, fun H1 D c1 r1 n1 h1 => ⟨D, p.1, rfl, SqL.of h1, fun H2 s2 => q H2 (c1.trans (Chg.of_same s2)) (by
      obtain ⟨dx, p0, a1, a2, a3⟩ := r1
      exact ⟨dx, p0, s2 _ _ a1, s2 _ _ a2, a3⟩)⟩⟩
abbrev s_text_out : Stmt := topS 34
theorem sc_text_out : FnScope ["octets"] ["octets"] (defScope s_text_out) := SB.sc_by (by decide +kernel)
theorem len_text_out {T : TX K mg} : ∀ vs H Q E, sp_text_out T vs H Q E → vs.length = (["octets"] : List Str).length := by
  rintro _ H Q E ⟨_, _, rfl, _⟩
  rfl
theorem ok_text_out (T : TX K mg) (c_number_out : SB.Cal P w K mg base 1 "number_out" (sp_number_out T))  {f : Addr} {fd : FuncData} (F : Fun K "text_out" "text_out" s_text_out f fd) : FnOk P w K mg base CX0 2 f fd ["octets"] (sp_text_out T) := by
  refine F.ok sc_text_out len_text_out (fun cdv A outer s H vs Q E hr h => ⟨_, (pss_one (ps_ret (pe_op op_cat (SB.cal c_number_out hr (by decide) rfl (pa_cons (pe_callB (SB.kLen (K := K) rfl) (by rfl) T.b_len PySem.boot_len (pa_cons (pv 0) pa_nil)) (pa_cons pe_int pa_nil))) (pe_callTy (SB.kListOf (K := K) rfl) (by rfl) T.b_list (by decide +kernel) (pa_cons (pv 0) pa_nil))))), ?_⟩)
  obtain ⟨a, os, rfl, ha, hl, q⟩ := h
  have lm : (os.map octT).length = os.length := List.length_map _
  refine ⟨_, rfl, a, _, rfl, ha, os.length, 4, by rw [lm]; rfl, by decide, fun H1 D1 s1 n1 h1 => ⟨_, rfl, a, _, rfl, ha.imp (Same.seq s1) (same_tup s1), fun D2 h2 => ⟨D1, D2, _, _, rfl, rfl, upd_keep h1 h2, upd_same, ?_, fun D3 h3 => ?_⟩⟩⟩
  · rw [lm, List.length_map, low_len]
    exact le_line (by omega)
  · refine q _ D3 (same_upd2 (same_upd2 s1 (s1.free h2)) (s1.free (free_upd h3))) (s1.free (free_upd h3)) ?_
    rw [upd_same, ← List.map_append]
    rfl

end
end SP

/-! ## V2 -/
set_option maxHeartbeats 4000000
namespace SP
open PySem PySem.Spec PyProof.Rows L2 SB
open SS (VC VG R Sz RateOk treeW ratesOf leadsTo)
open R7244e.Spec (reachable recurrentStates hasOneClass canMeet distribution wordProb endState coverage separation unstopped stopProbs survival entry target)
section
variable {P : Program} {w : World} {base : Heap}
variable {K : PySem.W.Frag} {mg : Str → Option Value}

theorem itT {c : Bool} {A B : Prop} (e : c = true) (h : A) : if c = true then A else B := by rw [if_pos e]; exact h
theorem itF {c : Bool} {A B : Prop} (e : c = false) (h : B) : if c = true then A else B := by rw [if_neg (by rw [e]; decide)]; exact h
theorem eqi (a : Nat) (b : Int) : decide (intT a = V.int b) = decide ((a : Int) = b) := by
  rw [decide_eq_decide]
  constructor
  · intro z
    injection z
  · intro z
    rw [intT, z]
/-! ### reading takes octets -/
theorem front_len {k : Nat} {r x r' : List UInt8} (h : RWire.front k r = some (x, r')) : r'.length ≤ r.length := by
  obtain ⟨_, _, rfl⟩ := front_eq h
  rw [List.length_drop]
  omega
theorem readNum_len {k n : Nat} {r r' : List UInt8} (h : RWire.readNum k r = some (n, r')) : r'.length ≤ r.length := by
  unfold RWire.readNum at h
  cases e : RWire.front k r with
  | none => rw [e] at h; cases h
  | some p => rw [e] at h; cases h; exact front_len (x := p.1) e
theorem readText_len {u r r' : List UInt8} (h : RWire.readText r = some (u, r')) : r'.length ≤ r.length := by
  unfold RWire.readText at h
  cases e : RWire.readNum 4 r with
  | none => rw [e] at h; cases h
  | some p =>
    rw [e] at h
    have h1 := readNum_len (n := p.1) (r' := p.2) e
    have h2 := front_len h
    omega
theorem readMany_len {α : Type} {f : List UInt8 → Option (α × List UInt8)} (hf : ∀ r x r', f r = some (x, r') → r'.length < r.length) : ∀ {n : Nat} {r : List UInt8} {l : List α} {r' : List UInt8}, RWire.readMany f n r = some (l, r') → n + r'.length ≤ r.length
  | 0, r, l, r', h => by cases h; omega
  | n + 1, r, l, r', h => by
    unfold RWire.readMany at h
    cases e : f r with
    | none => rw [e] at h; cases h
    | some p =>
      rw [e] at h
      simp only at h
      cases e2 : RWire.readMany f n p.2 with
      | none => rw [e2] at h; cases h
      | some q =>
        rw [e2] at h
        cases h
        have h1 := hf r p.1 p.2 e
        have h2 := readMany_len hf (n := n) (r := p.2) (l := q.1) (r' := q.2) e2
        omega
theorem readSigns_len : ∀ {n : Nat} {r : List UInt8} {l : List UInt16} {r' : List UInt8}, RWire.readSigns n r = some (l, r') → r'.length ≤ r.length
  | 0, r, l, r', h => by cases h; omega
  | n + 1, [], l, r', h => by cases h
  | n + 1, [a], l, r', h => by cases h
  | n + 1, a :: b :: r, l, r', h => by
    unfold RWire.readSigns at h
    cases e : RWire.readSigns n r with
    | none => rw [e] at h; cases h
    | some p =>
      rw [e] at h
      cases h
      have := readSigns_len (n := n) (r := r) (l := p.1) (r' := p.2) e
      rw [List.length_cons, List.length_cons]
      omega
theorem readEntry_len {f : List UInt8 → Option (RWire.Value × List UInt8)} (hf : ∀ r x r', f r = some (x, r') → r'.length < r.length) (r : List UInt8) (x : RWire.Text × RWire.Value) (r' : List UInt8) (h : RWire.readEntry f r = some (x, r')) : r'.length < r.length := by
  unfold RWire.readEntry at h
  cases e : RWire.readText r with
  | none => rw [e] at h; cases h
  | some p =>
    rw [e] at h
    simp only at h
    cases e2 : f p.2 with
    | none => rw [e2] at h; cases h
    | some q =>
      rw [e2] at h
      cases h
      have h1 := readText_len (u := p.1) (r' := p.2) e
      have h2 := hf p.2 q.1 q.2 e2
      omega
theorem readF_len : ∀ (n : Nat) (r : List UInt8) (x : RWire.Value) (r' : List UInt8), RWire.readF n r = some (x, r') → r'.length < r.length
  | 0, r, x, r', h => by cases h
  | n + 1, [], x, r', h => by cases h
  | n + 1, k :: r, x, r', h => by
    have ih := readF_len n
    have h : RWire.readKind (RWire.readF n) k.toNat r = some (x, r') := h
    rw [List.length_cons]
    suffices r'.length ≤ r.length by omega
    unfold RWire.readKind at h
    split at h
    · cases h; omega
    · cases h; omega
    · cases h; omega
    · cases h; omega
    · unfold RWire.readInt at h
      cases e : RWire.readNum 8 r with
      | none => rw [e] at h; cases h
      | some p =>
        rw [e] at h
        simp only at h
        split at h
        · cases h; exact readNum_len (n := p.1) e
        · cases h
    · cases r with
      | nil => cases h
      | cons s0 r0 =>
        unfold RWire.readBig at h
        simp only at h
        cases e : RWire.readNum 4 r0 with
        | none => rw [e] at h; cases h
        | some p =>
          rw [e] at h
          simp only at h
          cases e2 : RWire.front p.1 p.2 with
          | none => rw [e2] at h; cases h
          | some q =>
            rw [e2] at h
            simp only at h
            split at h
            · cases h
            · cases h
              have h1 := readNum_len (n := p.1) (r' := p.2) e
              have h2 := front_len (x := q.1) (r' := q.2) e2
              rw [List.length_cons]
              omega
    · unfold RWire.readWords at h
      cases e : RWire.readText r with
      | none => rw [e] at h; cases h
      | some p => rw [e] at h; cases h; exact readText_len (u := p.1) e
    · unfold RWire.readList at h
      cases e : RWire.readNum 4 r with
      | none => rw [e] at h; cases h
      | some p =>
        rw [e] at h
        simp only at h
        cases e2 : RWire.readMany (RWire.readF n) p.1 p.2 with
        | none => rw [e2] at h; cases h
        | some q =>
          rw [e2] at h
          cases h
          have h1 := readNum_len (n := p.1) (r' := p.2) e
          have h2 := readMany_len ih (l := q.1) (r' := q.2) e2
          omega
    · unfold RWire.readRecord at h
      cases e : RWire.readNum 4 r with
      | none => rw [e] at h; cases h
      | some p =>
        rw [e] at h
        simp only at h
        cases e2 : RWire.readMany (RWire.readEntry (RWire.readF n)) p.1 p.2 with
        | none => rw [e2] at h; cases h
        | some q =>
          rw [e2] at h
          simp only at h
          split at h
          · cases h
            have h1 := readNum_len (n := p.1) (r' := p.2) e
            have h2 := readMany_len (readEntry_len ih) (l := q.1) (r' := q.2) e2
            omega
          · cases h
    · unfold RWire.readOctets at h
      cases e : RWire.readText r with
      | none => rw [e] at h; cases h
      | some p => rw [e] at h; cases h; exact readText_len (u := p.1) e
    · unfold RWire.readWide at h
      cases e : RWire.readNum 4 r with
      | none => rw [e] at h; cases h
      | some p =>
        rw [e] at h
        simp only at h
        cases e2 : RWire.readSigns p.1 p.2 with
        | none => rw [e2] at h; cases h
        | some q =>
          rw [e2] at h
          simp only at h
          split at h
          · cases h
            have h1 := readNum_len (n := p.1) (r' := p.2) e
            have h2 := readSigns_len (l := q.1) (r' := q.2) e2
            omega
          · cases h
    · cases h
/-- an entry of a list (no name), or of a record -/
def readE (b8 : Bool) (n : Nat) (b : List UInt8) : Option ((RWire.Text × RWire.Value) × List UInt8) := if b8 then RWire.readEntry (RWire.readF n) b else match RWire.readF n b with
  | none => none
  | some q => some (([], q.1), q.2)
theorem readE_len (b8 : Bool) (n : Nat) (r : List UInt8) (x : RWire.Text × RWire.Value) (r' : List UInt8) (h : readE b8 n r = some (x, r')) : r'.length < r.length := by
  cases b8 with
  | true => exact readEntry_len (readF_len n) r x r' h
  | false =>
    unfold readE at h
    rw [if_neg (by decide)] at h
    cases e : RWire.readF n r with
    | none => rw [e] at h; cases h
    | some q => rw [e] at h; cases h; exact readF_len n r q.1 q.2 e
theorem many_E {n : Nat} : ∀ {c : Nat} {r : List UInt8} {l : List RWire.Value} {r' : List UInt8}, RWire.readMany (RWire.readF n) c r = some (l, r') → RWire.readMany (readE false n) c r = some (l.map fun v => ([], v), r')
  | 0, r, l, r', h => by cases h; rfl
  | c + 1, r, l, r', h => by
    unfold RWire.readMany at h ⊢
    cases e : RWire.readF n r with
    | none => rw [e] at h; cases h
    | some p =>
      rw [e] at h
      simp only at h
      cases e2 : RWire.readMany (RWire.readF n) c p.2 with
      | none => rw [e2] at h; cases h
      | some q =>
        rw [e2] at h
        cases h
        have ee : readE false n r = some (([], p.1), p.2) := by
          unfold readE
          rw [if_neg (by decide), e]
        rw [ee]
        simp only
        rw [many_E (c := c) (l := q.1) (r' := q.2) e2]
        rfl
theorem many_E1 {n : Nat} {c : Nat} {r : List UInt8} : RWire.readMany (readE true n) c r = RWire.readMany (RWire.readEntry (RWire.readF n)) c r := by
  have e : readE true n = RWire.readEntry (RWire.readF n) := by
    funext b
    unfold readE
    rw [if_pos rfl]
  rw [e]
theorem many_all : ∀ {l : List RWire.Value}, RWire.noBigMany l = true → RWire.noOctetsMany l = true → RWire.noWideMany l = true → ∀ v ∈ l, RWire.noBig v = true ∧ RWire.noOctets v = true ∧ RWire.noWide v = true
  | [], _, _, _, v, h => by cases h
  | a :: l, h1, h2, h3, v, h => by
    unfold RWire.noBigMany at h1
    unfold RWire.noOctetsMany at h2
    unfold RWire.noWideMany at h3
    rw [Bool.and_eq_true] at h1 h2 h3
    rcases List.mem_cons.mp h with rfl | h
    · exact ⟨h1.1, h2.1, h3.1⟩
    · exact many_all h1.2 h2.2 h3.2 v h
theorem entries_all : ∀ {l : List (RWire.Text × RWire.Value)}, RWire.noBigEntries l = true → RWire.noOctetsEntries l = true → RWire.noWideEntries l = true → ∀ e ∈ l, RWire.noBig e.2 = true ∧ RWire.noOctets e.2 = true ∧ RWire.noWide e.2 = true
  | [], _, _, _, v, h => by cases h
  | a :: l, h1, h2, h3, v, h => by
    unfold RWire.noBigEntries at h1
    unfold RWire.noOctetsEntries at h2
    unfold RWire.noWideEntries at h3
    rw [Bool.and_eq_true] at h1 h2 h3
    rcases List.mem_cons.mp h with rfl | h
    · exact ⟨h1.1, h2.1, h3.1⟩
    · exact entries_all h1.2 h2.2 h3.2 v h
theorem takenAll_eq : ∀ l : List RWire.Value, Rust.takenAll l = l.map Rust.taken
  | [] => rfl
  | v :: l => by
    show Rust.taken v :: Rust.takenAll l = _
    rw [takenAll_eq l]
    rfl
def takenE (e : RWire.Text × RWire.Value) : Units × Plain := (e.1.map Rust.unitOf, Rust.taken e.2)
theorem takenFields_eq : ∀ l : List (RWire.Text × RWire.Value), Rust.takenFields l = l.map takenE
  | [] => rfl
  | (n, v) :: l => by
    show (n.map Rust.unitOf, Rust.taken v) :: Rust.takenFields l = _
    rw [takenFields_eq l]
    rfl
theorem unit_oct (o : UInt8) : unitT (Rust.unitOf o) = octT o := by
  unfold unitT Rust.unitOf octT
  rw [UInt16.toNat_ofNat', Nat.mod_eq_of_lt]
  have := o.toNat_lt
  omega
theorem unit_octs (u : List UInt8) : (u.map Rust.unitOf).map unitT = u.map octT := by
  rw [List.map_map]
  exact List.map_congr_left fun o _ => unit_oct o
theorem RowAt.same {T : TX K mg} {H H' : Hp} {r o : Addr} {os rest : List UInt8} (s : Same H H') (h : RowAt T H r o os rest) : RowAt T H' r o os rest := by
  obtain ⟨dx, p, a1, a2, a3⟩ := h
  exact ⟨dx, p, s _ _ a1, s _ _ a2, a3⟩
theorem RowAt.offP {T : TX K mg} {I : Addr → Prop} {H : Hp} {r o : Addr} {os rest : List UInt8} (h : RowAt T H r o os rest) : OffP (· = r) I H := by
  obtain ⟨dx, p, a1, _⟩ := h
  refine { offI (I := I) a1 with one := ?_ }
  intro a C dx2 f v e z
  subst e
  rw [a1] at z
  have := congrArg (fun o => match o with | some (HO.ins _ _ fs) => fs.length | _ => 0) z
  simp at this
theorem RowAt.updL {T : TX K mg} {H : Hp} {r o D : Addr} {os rest : List UInt8} {ys zs : List V} (h : RowAt T H r o os rest) (hD : H D = some (.lst ys)) (n : o ≠ D) : RowAt T (upd H D (.lst zs)) r o os rest := by
  obtain ⟨dx, p, a1, a2, a3⟩ := h
  have nr : r ≠ D := fun z => by rw [z, hD] at a1; cases a1
  exact ⟨dx, p, by rw [upd_ne nr]; exact a1, by rw [upd_ne n]; exact a2, a3⟩
theorem taken_int {T : TX K mg} {I : Addr → Prop} {H : Hp} {b : Bool} (i : Int) : PlAt T I H b (.int i) (Rust.taken (.int i)) := .num i
theorem intOf_lo (n : Nat) (h : ((n : Nat) : Int) < 18446744073709551616 / 2) : RWire.intOf n = ((n : Nat) : Int) := by
  unfold RWire.intOf
  rw [if_pos (decide_eq_true (by omega))]
  rfl
theorem intOf_hi (n : Nat) (h : ¬ ((n : Nat) : Int) < 18446744073709551616 / 2) : RWire.intOf n = ((n : Nat) : Int) - 18446744073709551616 := by
  unfold RWire.intOf
  rw [if_neg (fun z => h (by have := of_decide_eq_true z; omega))]
  rfl
theorem no0_Row_one_value (T : TX K mg) {vs : List V} {H : Hp} {Q : VK} {E : XK} (h : spl_Row_one_value T 0 vs H Q E) : False := by
  obtain ⟨_, _, _, _, _, _, _, _, e, _⟩ := h
  cases e
theorem len_Row_one_value {T : TX K mg} {n : Nat} : ∀ vs H Q E, spl_Row_one_value T n vs H Q E → vs.length = (["self"] : List Str).length := by
  rintro _ H Q E ⟨_, _, _, _, _, _, rfl, _⟩
  rfl
abbrev s_Row_one_value : Stmt := inClass (topS 32) 3
theorem sc_Row_one_value : FnScope ["self", "kind", "told", "turn", "name", "member"] ["self"] (defScope s_Row_one_value) := SB.sc_by (by decide +kernel)
theorem st_Row_one_value (T : TX K mg) (c_number_in : SB.Cal P w K mg base 1 "number_in" (sp_number_in T)) (m_Nothing : SB.Mak P w K mg base 1 "Nothing" T.Nothing (sp_Nothing___init__ T)) (m_Record : SB.Mak P w K mg base 1 "Record" T.Record (sp_Record___init__ T)) (m_Row_count : SB.Met P w K mg base 2 T.Row "count" (sp_Row_count T)) (m_Row_take : SB.Met P w K mg base 1 T.Row "take" (sp_Row_take T)) (m_Text : SB.Mak P w K mg base 1 "Text" T.Text (sp_Text___init__ T)) {f : Addr} {fd : FuncData} (F : Fun K "one_value" "Row.one_value" s_Row_one_value f fd) (n : Nat) (m_Row_one_value : SB.Met P w K mg base (n + 6) T.Row "one_value" (spl_Row_one_value T n)) : FnOk P w K mg base CX0 (n + 6 + 1) f fd ["self"] (spl_Row_one_value T (n + 1)) := by
  refine F.ok (k := n + 6) sc_Row_one_value len_Row_one_value (fun cdv A outer s H vs Q E hr h => ⟨_, (pss_cons (ps_set (i := 1) sc_Row_one_value.nd rfl (by first | exact Or.inl rfl | exact Or.inr rfl) (pe_ix (SB.kIxL (K := K) rfl) (SB.met m_Row_take hr (by omega) (pv 0) (pa_cons pe_int pa_nil)) pe_int (fun _ _ => rfl))) (pss_cons (ps_if (pt_cmpR op_eq (pv 1) pe_int (nomark _)) (pss_one (ps_ret (SB.mak0 m_Nothing hr (by omega) rfl))) pss_nil) (pss_cons (ps_if (pt_cmpR op_eq (pv 1) pe_int (nomark _)) (pss_one (ps_ret pe_non)) pss_nil) (pss_cons (ps_if (PW.pt (pw_or (pt_cmpR op_eq (pv 1) pe_int (nomark _)) (pw_or1 (pt_cmpR op_eq (pv 1) pe_int (nomark _))))) (pss_one (ps_ret (pe_cmpR op_eq (pv 1) pe_int (nomark _)))) pss_nil) (pss_cons (ps_if (pt_cmpR op_eq (pv 1) pe_int (nomark _)) (pss_cons (ps_set (i := 2) sc_Row_one_value.nd rfl (by first | exact Or.inl rfl | exact Or.inr rfl) (SB.cal c_number_in hr (by omega) rfl (pa_cons (SB.met m_Row_take hr (by omega) (pv 0) (pa_cons pe_int pa_nil)) pa_nil))) (pss_one (ps_ret (pe_ifExp (pt_cmpR op_lt (pv 2) (pe_op op_fdiv (pe_glob (v := .int 18446744073709551616) rfl T.gWRAP ⟨_, rfl⟩) pe_int) (nomark _)) (pv 2) (pe_op op_sub (pv 2) (pe_glob (v := .int 18446744073709551616) rfl T.gWRAP ⟨_, rfl⟩)))))) pss_nil) (pss_cons (ps_if (pt_cmpR op_eq (pv 1) pe_int (nomark _)) (pss_one (ps_ret (SB.mak m_Text hr (by omega) rfl (pa_cons (pe_callTy (SB.kTupOf (K := K) rfl) (by rfl) T.b_tuple (by decide +kernel) (pa_cons (SB.met m_Row_take hr (by omega) (pv 0) (pa_cons (SB.met0 m_Row_count hr (by omega) (pv 0)) pa_nil)) pa_nil)) pa_nil)))) pss_nil) (pss_cons (ps_set (i := 2) sc_Row_one_value.nd rfl (by first | exact Or.inl rfl | exact Or.inr rfl) (pe_lst pa_nil)) (pss_cons (ps_for (by first | exact PassesOwn.never | exact passes_of rfl) rfl (pi_range1 (by rfl) T.b_range (pa_cons (SB.met0 m_Row_count hr (by omega) (pv 0)) pa_nil)) (pg_name (i := 3) sc_Row_one_value.nd rfl (by first | exact Or.inl rfl | exact Or.inr rfl)) (pss_cons (ps_set (i := 4) sc_Row_one_value.nd rfl (by first | exact Or.inl rfl | exact Or.inr rfl) (pe_ifExp (pt_cmpR op_eq (pv 1) pe_int (nomark _)) (SB.met m_Row_take hr (by omega) (pv 0) (pa_cons (SB.met0 m_Row_count hr (by omega) (pv 0)) pa_nil)) (pe_lst pa_nil))) (pss_one (ps_expr (pe_bm PySem.F.plainAttrs_list PySem.F.slot_list_append PySem.F.type_list_append mt_append (pv 2) (pa_cons (pe_tup (pa_cons (pv 4) (pa_cons (SB.met0 m_Row_one_value hr (by omega) (pv 0)) pa_nil))) pa_nil)))))) (pss_one (ps_ret (pe_ifExp (pt_cmpR op_eq (pv 1) pe_int (nomark _)) (SB.mak m_Record hr (by omega) rfl (pa_cons (pv 2) pa_nil)) (pe_lc (own := [("member", 5)]) (g := (gName 5)) (tt := tYes) (by rfl) sc_Row_one_value.nd (SB.kPiL (K := K) rfl (pv 2)) (blkOk_by (own := [("member", 5)]) (N := ["self", "kind", "told", "turn", "name", "member"]) (sc := (defScope s_Row_one_value)) (by decide +kernel)) (fun _ _ _ _ _ => (pg_name (i := 5) sc_Row_one_value.nd rfl (by first | exact Or.inl rfl | exact Or.inr rfl))) (fun _ _ _ _ _ => pts_nil) (fun _ _ _ _ _ => (pe_ix (SB.kIxT (K := K) rfl) (pv 5) pe_int (fun _ _ => rfl))))))))))))))), ?_⟩)
  obtain ⟨r, o, os, rest, v, rest', rfl, hr0, hrd, nb, no, nw, q⟩ := h
  match rest, hrd with
  | [], hrd => cases hrd
  | k :: r1, hrd =>
  have hrd : RWire.readKind (RWire.readF n) k.toNat r1 = some (v, rest') := hrd
  obtain ⟨dx0, p0, h0, _⟩ := id hr0
  refine ⟨_, rfl, r, _, _, rfl, h0, noRow_take, r, o, os, k :: r1, 1, [k], r1, rfl, hr0, rfl, fun H1 D1 c1 w1 n1 h1 => ⟨D1, _, 0, _, rfl, rfl, SqL.of h1, rfl, ?_⟩⟩
  obtain ⟨dx1, p1, h1r, _⟩ := id w1
  have fin : ∀ (H2 : Hp) (x : V), Same H1 H2 → PlAt T (FreshA H H2) H2 false x (Rust.taken v) → rest' = r1 → Q x H2 := by
    intro H2 x s2 hp e
    subst e
    exact q H2 x (c1.trans (Chg.of_same s2)) (w1.same s2) hp
  have nq : ∀ (m : Nat) (b : Int), k.toNat = m → (m : Int) ≠ b → decide (octT k = V.int b) = false := by
    intro m b e ne
    unfold octT
    rw [eqi, e]
    exact decide_eq_false ne
  have ye : ∀ (m : Nat), k.toNat = m → decide (octT k = V.int (m : Nat)) = true := by
    intro m e
    unfold octT
    rw [eqi, e]
    exact decide_eq_true rfl
  by_cases h78 : k.toNat = 7 ∨ k.toNat = 8
  · obtain ⟨b8, cnt, r2, es, hb8, e4, em, et, hall⟩ : ∃ (b8 : Bool) (cnt : Nat) (r2 : List UInt8) (es : List (RWire.Text × RWire.Value)), decide (octT k = V.int 8) = b8 ∧ RWire.readNum 4 r1 = some (cnt, r2) ∧ RWire.readMany (readE b8 n) cnt r2 = some (es, rest') ∧
        Rust.taken v = (if b8 = true then .obj (es.map takenE) else .arr (es.map fun e => Rust.taken e.2)) ∧ (∀ e ∈ es, RWire.noBig e.2 = true ∧ RWire.noOctets e.2 = true ∧ RWire.noWide e.2 = true) := by
      rcases h78 with ek | ek
      · rw [ek] at hrd
        have hrd : RWire.readList (RWire.readF n) r1 = some (v, rest') := hrd
        unfold RWire.readList at hrd
        cases e4 : RWire.readNum 4 r1 with
        | none => rw [e4] at hrd; cases hrd
        | some p =>
          rw [e4] at hrd
          simp only at hrd
          cases e5 : RWire.readMany (RWire.readF n) p.1 p.2 with
          | none => rw [e5] at hrd; cases hrd
          | some u =>
            rw [e5] at hrd
            cases hrd
            refine ⟨false, p.1, p.2, u.1.map fun v => ([], v), nq 7 8 ek (by decide), rfl, many_E e5, ?_, ?_⟩
            · rw [if_neg (by decide)]
              show R7244e.Spec.Plain.arr (Rust.takenAll u.1) = _
              rw [takenAll_eq, List.map_map]
              rfl
            · intro e he
              obtain ⟨v, hv, rfl⟩ := List.mem_map.mp he
              exact many_all nb no nw v hv
      · rw [ek] at hrd
        have hrd : RWire.readRecord (RWire.readF n) r1 = some (v, rest') := hrd
        unfold RWire.readRecord at hrd
        cases e4 : RWire.readNum 4 r1 with
        | none => rw [e4] at hrd; cases hrd
        | some p =>
          rw [e4] at hrd
          simp only at hrd
          cases e5 : RWire.readMany (RWire.readEntry (RWire.readF n)) p.1 p.2 with
          | none => rw [e5] at hrd; cases hrd
          | some u =>
            rw [e5] at hrd
            simp only at hrd
            split at hrd
            · cases hrd
              refine ⟨true, p.1, p.2, u.1, ye 8 ek, rfl, by rw [many_E1]; exact e5, ?_, entries_all nb no nw⟩
              rw [if_pos rfl]
              show R7244e.Spec.Plain.obj (Rust.takenFields u.1) = _
              rw [takenFields_eq]
            · cases hrd
    rw [et] at q
    have l2 := readNum_len e4
    have lm := readMany_len (readE_len b8 n) em
    have lr1 : (k :: r1).length ≤ 61000 := by
      obtain ⟨_, p, _, _, e, l, _⟩ := hr0
      rw [← e, List.length_drop]
      omega
    rw [List.length_cons] at lr1
    refine ⟨_, rfl, rfl, _, rfl, itF (nq k.toNat 0 rfl (by omega)) ⟨_, rfl, rfl, _, rfl, itF (nq k.toNat 1 rfl (by omega)) ⟨_, rfl, rfl, _, rfl, itF (nq k.toNat 2 rfl (by omega)) ⟨_, rfl, rfl, _, rfl, itF (nq k.toNat 3 rfl (by omega)) ⟨_, rfl, rfl, _, rfl, itF (nq k.toNat 4 rfl (by omega)) ⟨_, rfl, rfl, _, rfl, itF (nq k.toNat 6 rfl (by omega)) ?_⟩⟩⟩⟩⟩⟩
    refine ⟨le_line (by show 0 ≤ _; decide), fun D hD => ?_⟩
    have sD : Same H1 (upd H1 D (.lst [])) := same_upd hD
    have hDl : upd H1 D (.lst []) D = some (.lst []) := upd_same
    generalize upd H1 D (.lst []) = H2 at sD hDl ⊢
    have w2 := w1.same sD
    have nD0 : H D = none := by
      cases e : H D with
      | none => rfl
      | some u =>
        have ne : D ≠ r := fun z => by rw [z, h1r] at hD; cases hD
        rw [c1 _ _ e ne] at hD
        cases hD
    obtain ⟨dx2, p2, h2r, h2o, _⟩ := id w2
    have noD : o ≠ D := fun z => by rw [z, hDl] at h2o; obtain ⟨_, _, _, h1o, _⟩ := w1; rw [z, hD] at h1o; cases h1o
    have nrD : r ≠ D := fun z => by rw [z, hDl] at h2r; cases h2r
    refine ⟨_, rfl, r, _, _, rfl, h2r, noRow_count, r, o, os, r1, cnt, r2, rfl, w2, e4, fun H3 c3 w3 => ⟨_, rfl, by omega, by omega, ?_⟩⟩
    have en : (((cnt : Nat) : Int)).toNat = cnt := Int.toNat_natCast cnt
    rw [en]
    have c03 : Chg (· = r) H H3 := (c1.trans (Chg.of_same sD)).trans c3
    refine for_range (lo := 0) (n := cnt) (fun j σ H' => ∃ (o3 o4 o5 : Option V) (ms : List V) (rj : List UInt8) (ej tj : List (RWire.Text × RWire.Value)), σ = [some (.ref r), some (octT k), some (.ref D), o3, o4, o5] ∧ Chg (· = r) H H' ∧ RowAt T H' r o os rj ∧ H' D = some (.lst ms) ∧
        FsAt T (fun b => FreshA H H' b ∧ b ≠ D) H' false ms (ej.map takenE) ∧ RWire.readMany (readE b8 n) (cnt - j) rj = some (tj, rest') ∧ ej ++ tj = es ∧ ej.length = j)
      ⟨none, none, none, [], r2, [], es, rfl, c03, w3, c3 _ _ hDl (fun z => nrD z.symm), .nil, by rw [Nat.sub_zero]; exact em, rfl, rfl⟩ ?_ ?_
    · rintro j σ H4 hj ⟨o3, o4, o5, ms, rj, ej, tj, rfl, c4, w4, h4, f4, em4, ees, lej⟩
      obtain ⟨m, hm⟩ : ∃ m, cnt - j = m + 1 := ⟨cnt - j - 1, by omega⟩
      have hm2 : cnt - (j + 1) = m := by omega
      rw [hm] at em4
      unfold RWire.readMany at em4
      obtain ⟨dx4, p4, h4r, h4o, _⟩ := id w4
      obtain ⟨nm, vl, ra, rb, ename, evl, em5, hv⟩ : ∃ (nm : RWire.Text) (vl : RWire.Value) (ra rb : List UInt8), (if b8 = true then RWire.readText rj = some (nm, ra) else nm = [] ∧ ra = rj) ∧ RWire.readF n ra = some (vl, rb) ∧ (∃ tl, RWire.readMany (readE b8 n) m rb = some (tl, rest') ∧ tj = (nm, vl) :: tl) ∧ True := by
        cases e1 : readE b8 n rj with
        | none => rw [e1] at em4; cases em4
        | some x =>
          rw [e1] at em4
          simp only at em4
          cases e2 : RWire.readMany (readE b8 n) m x.2 with
          | none => rw [e2] at em4; cases em4
          | some y =>
            rw [e2] at em4
            cases em4
            unfold readE at e1
            cases b8 with
            | true =>
              rw [if_pos rfl] at e1
              unfold RWire.readEntry at e1
              cases e3 : RWire.readText rj with
              | none => rw [e3] at e1; cases e1
              | some p =>
                rw [e3] at e1
                simp only at e1
                cases e5 : RWire.readF n p.2 with
                | none => rw [e5] at e1; cases e1
                | some u =>
                  rw [e5] at e1
                  cases e1
                  exact ⟨p.1, u.1, p.2, u.2, by rw [if_pos rfl], e5, ⟨y.1, e2, rfl⟩, trivial⟩
            | false =>
              rw [if_neg (by decide)] at e1
              cases e5 : RWire.readF n rj with
              | none => rw [e5] at e1; cases e1
              | some u =>
                rw [e5] at e1
                cases e1
                exact ⟨[], u.1, rj, u.2, by rw [if_neg (by decide)]; exact ⟨rfl, rfl⟩, e5, ⟨y.1, e2, rfl⟩, trivial⟩
      obtain ⟨tl, em6, rfl⟩ := em5
      have hmem := hall (nm, vl) (by rw [← ees]; simp)
      refine ⟨_, rfl, rfl, _, rfl, ?_⟩
      rw [hb8]
      have lj : ms.length ≤ 61000 := by
        have := f4.len
        rw [List.length_map, lej] at this
        omega
      have inv : ∀ (H5 : Hp) (N5 : Addr) (H6 H7 : Hp) (x : V) (P5 : Addr) (o4 : Option V), Chg (· = r) H4 H5 → RowAt T H5 r o os ra → H4 N5 = none → H5 N5 = some (.lst (nm.map octT)) → Chg (· = r) H5 H6 → RowAt T H6 r o os rb → PlAt T (FreshA H5 H6) H6 false x (Rust.taken vl) → H6 P5 = none → H7 = upd H6 P5 (.tup [.ref N5, x]) →
          H7 D = some (.lst ms) ∧ ∃ (o3 o4' o5 : Option V) (ms' : List V) (rj : List UInt8) (ej tj : List (RWire.Text × RWire.Value)), [some (.ref r), some (octT k), some (.ref D), some (V.int ((0 : Int) + (j : Nat))), some (.ref N5), o4] = [some (.ref r), some (octT k), some (.ref D), o3, o4', o5] ∧ Chg (· = r) H (upd H7 D (.lst (ms ++ [.ref P5]))) ∧ RowAt T (upd H7 D (.lst (ms ++ [.ref P5]))) r o os rj ∧ (upd H7 D (.lst (ms ++ [.ref P5]))) D = some (.lst ms') ∧
            FsAt T (fun b => FreshA H (upd H7 D (.lst (ms ++ [.ref P5]))) b ∧ b ≠ D) (upd H7 D (.lst (ms ++ [.ref P5]))) false ms' (ej.map takenE) ∧ RWire.readMany (readE b8 n) (cnt - (j + 1)) rj = some (tj, rest') ∧ ej ++ tj = es ∧ ej.length = j + 1 := by
        intro H5 N5 H6 H7 x P5 o4 c5 w5 n5 h5 c6 w6 p6 nP eH7
        have s67 : Same H6 H7 := by rw [eH7]; exact same_upd nP
        have h7P : H7 P5 = some (.tup [.ref N5, x]) := by rw [eH7]; exact upd_same
        have h5D := c5 _ _ h4 (fun z => nrD z.symm)
        have h6D := c6 _ _ h5D (fun z => nrD z.symm)
        have h7D := s67 _ _ h6D
        have c46 := c5.trans c6
        have c07 := (c4.trans c46).trans (Chg.of_same s67)
        have w7 := w6.same s67
        have nN0 : H N5 = none := by
          cases e : H N5 with
          | none => rfl
          | some u =>
            have ne : N5 ≠ r := fun z => by rw [z, h4r] at n5; cases n5
            rw [c4 _ _ e ne] at n5
            cases n5
        have nND : N5 ≠ D := fun z => by rw [z, h4] at n5; cases n5
        have nNr : N5 ≠ r := fun z => by rw [z, h4r] at n5; cases n5
        have h6N := c6 _ _ h5 nNr
        have c04 : Chg (· = r) H H4 := c4
        have gr : ∀ b, FreshA H H4 b ∧ b ≠ D → FreshA H H7 b ∧ b ≠ D := by
          intro b ⟨hb, ne⟩
          refine ⟨⟨hb.1, fun z => hb.2 ?_⟩, ne⟩
          have z6 := s67.free z
          obtain ⟨_, _, w6r, _⟩ := id w6
          exact chg_free c46 w6r z6
        have f7 : FsAt T (fun b => FreshA H H7 b ∧ b ≠ D) H7 false (ms ++ [.ref P5]) ((ej ++ [(nm, vl)]).map takenE) := by
          rw [List.map_append]
          refine FsAt.snoc (SqT.of h7P) ⟨⟨nN0, by rw [s67 _ _ h6N]; simp⟩, nND⟩ ?_ ?_ ?_
          · show SqL K H7 N5 ((nm.map Rust.unitOf).map unitT)
            rw [unit_octs]
            exact SqL.of (s67 _ _ h6N)
          · refine (p6.same s67).mono fun b hb => ⟨⟨?_, fun z => hb.2 (s67.free z)⟩, fun z => ?_⟩
            · have hb1 : H4 b = none := by
                obtain ⟨_, _, w5r, _⟩ := id w5
                exact chg_free c5 w5r hb.1
              cases e : H b with
              | none => rfl
              | some u =>
                have ne : b ≠ r := fun z => by rw [z, h4r] at hb1; cases hb1
                rw [c4 _ _ e ne] at hb1
                cases hb1
            · rw [z] at hb
              exact absurd hb.1 (by rw [h5D]; simp)
          · have f6 := FsAt.keep (T := T) (b := false) (b' := false) (keeps_off (w4.offP (I := fun b => FreshA H H4 b ∧ b ≠ D)) c46) (fun z => z) f4
            exact FsAt.keep (keeps_same s67 gr) (fun z => z) f6
        refine ⟨h7D, _, _, _, ms ++ [.ref P5], rb, ej ++ [(nm, vl)], tl, rfl, chg_upd c07 (.inl nD0), w7.updL h7D noD, upd_same, FsAt.keep (keeps_upd h7D (fun b hb => ⟨⟨hb.1.1, fun z => hb.1.2 (free_upd z)⟩, hb.2⟩) (fun b hb => hb.2)) (fun z => z) f7, ?_, ?_, ?_⟩
        · rw [hm2]
          exact em6
        · rw [← ees, List.append_assoc]
          rfl
        · rw [List.length_append, lej]
          rfl
      cases b8 with
      | false =>
        rw [if_neg (by decide)] at ename
        obtain ⟨rfl, rfl⟩ := ename
        refine itF rfl ⟨le_line (by show 0 ≤ _; decide), fun N5 hN => ?_⟩
        have s5 : Same H4 (upd H4 N5 (.lst [])) := same_upd hN
        have h5 : upd H4 N5 (.lst []) N5 = some (.lst []) := upd_same
        generalize upd H4 N5 (.lst []) = H5 at s5 h5 ⊢
        have w5 := w4.same s5
        have h5r := s5 _ _ h4r
        refine ⟨_, rfl, .inl ⟨rfl, _, SqL.of (s5 _ _ h4)⟩, _, rfl, _, rfl, r, _, _, rfl, h5r, noRow_one_value, r, o, os, ra, vl, rb, rfl, w5, evl, hmem.1, hmem.2.1, hmem.2.2, fun H6 x c6 w6 p6 => ⟨le_line (by show 2 ≤ _; decide), fun P5 hP => ?_⟩⟩
        obtain ⟨i1, i2⟩ := inv H5 N5 H6 _ x P5 o5 (Chg.of_same s5) w5 hN h5 c6 w6 p6 hP rfl
        exact ⟨D, ms, .ref P5, rfl, rfl, i1, lt_line (by omega), i2⟩
      | true =>
        rw [if_pos rfl] at ename
        unfold RWire.readText at ename
        cases e7 : RWire.readNum 4 rj with
        | none => rw [e7] at ename; cases ename
        | some pn =>
          rw [e7] at ename
          simp only at ename
          refine itT rfl ⟨_, rfl, r, _, _, rfl, h4r, noRow_take, _, rfl, r, _, _, rfl, h4r, noRow_count, r, o, os, rj, pn.1, pn.2, rfl, w4, e7, fun H41 c41 w41 => ⟨r, o, os, pn.2, pn.1, nm, ra, rfl, w41, ename, fun H5 N5 c5 w5 n5 h5 => ?_⟩⟩
          obtain ⟨dx5, p5, h5r, _⟩ := id w5
          obtain ⟨dx41, p41, h41r, _⟩ := id w41
          have c45 := c41.trans c5
          have nN : H4 N5 = none := chg_free c41 h41r n5
          refine ⟨_, rfl, .inl ⟨rfl, _, SqL.of (c45 _ _ h4 (fun z => nrD z.symm))⟩, _, rfl, _, rfl, r, _, _, rfl, h5r, noRow_one_value, r, o, os, ra, vl, rb, rfl, w5, evl, hmem.1, hmem.2.1, hmem.2.2, fun H6 x c6 w6 p6 => ⟨le_line (by show 2 ≤ _; decide), fun P5 hP => ?_⟩⟩
          obtain ⟨i1, i2⟩ := inv H5 N5 H6 _ x P5 o5 c45 w5 nN h5 c6 w6 p6 hP rfl
          exact ⟨D, ms, .ref P5, rfl, rfl, i1, lt_line (by omega), i2⟩
    · rintro σ H4 ⟨o3, o4, o5, ms, rj, ej, tj, rfl, c4, w4, h4, f4, em4, ees, lej⟩
      rw [Nat.sub_self] at em4
      cases em4
      rw [List.append_nil] at ees
      subst ees
      refine ⟨_, rfl, rfl, _, rfl, ?_⟩
      rw [hb8]
      cases b8 with
      | true =>
        refine itT rfl ⟨_, rfl, fun x dx hx hdx nd => ⟨x, dx, .ref D, rfl, upd_same, fun H5 c5 h5 => ⟨rfl, ?_⟩⟩⟩
        have s5 := mk_same hx hdx c5
        rw [if_pos rfl] at q
        refine q H5 _ (c4.trans (Chg.of_same s5)) (w4.same s5) (.obj h5 ⟨nD0, by rw [s5 _ _ h4]; simp⟩ (SqL.of (s5 _ _ h4)) (FsAt.keep (keeps_same s5 fun b hb => ⟨hb.1.1, fun z => hb.1.2 (s5.free z)⟩) (fun z => z) f4))
      | false =>
        refine itF rfl ⟨_, rfl, D, rfl, ⟨_, SqL.of h4⟩, fun D2 hD2 => ?_⟩
        rw [if_neg (by decide)] at q
        have nD2 : H D2 = none := by
          cases e : H D2 with
          | none => rfl
          | some u =>
            obtain ⟨_, _, w4r, _⟩ := id w4
            have ne : D2 ≠ r := fun z => by rw [z, w4r] at hD2; cases hD2
            rw [c4 _ _ e ne] at hD2
            cases hD2
        refine lc_list (K := K) (a := D) (xs := ms) (fun i H5 => Same H4 H5 ∧ ∃ vs, H5 D2 = some (.lst vs) ∧ PlsAt T (fun b => FreshA H H5 b ∧ b ≠ D2) H5 false vs ((ej.map fun e => Rust.taken e.2).take i)) ⟨same_upd hD2, [], upd_same, .nil⟩ (fun i H5 _ ⟨s5, _⟩ => Same.seq s5 (SqL.of h4)) ?_ ?_
        · rintro i x H5 hx ⟨s5, vs, h5, p5⟩
          obtain ⟨t, nn, vv, nmm, pp, rfl, egt, ht, _, hp⟩ := f4.get' hx
          refine ⟨rfl, lcYes ⟨_, rfl, t, _, 1, _, rfl, rfl, same_tup s5 ht, rfl, vs, h5, ?_, same_upd2 s5 hD2, _, upd_same, ?_⟩⟩
          · have := p5.len
            rw [List.length_take, List.length_map, lej] at this
            exact lt_line (by omega)
          · have eg : (ej.map fun e => Rust.taken e.2)[i]? = some pp := by
              obtain ⟨e, he, e2⟩ := get_map egt
              rw [map_get he]
              rw [show pp = (takenE e).2 from by rw [← e2]]
              rfl
            rw [take_snoc eg]
            have p6 : PlsAt T (fun b => FreshA H H5 b ∧ b ≠ D2) H5 false (vs ++ [vv]) ((ej.map fun e => Rust.taken e.2).take i ++ [pp]) := p5.snoc ((hp.same s5).mono fun b hb => ⟨⟨hb.1.1, fun z => hb.1.2 (s5.free z)⟩, fun z => by rw [z] at hb; exact hb.1.2 hD2⟩)
            exact PlsAt.keep (keeps_upd h5 (fun b hb => ⟨⟨hb.1.1, fun z => hb.1.2 (free_upd z)⟩, hb.2⟩) (fun b hb => hb.2)) (fun z => z) p6
        · rintro H5 ⟨s5, vs, h5, p5⟩
          have lms := f4.len
          rw [List.length_map] at lms
          rw [List.take_of_length_le (by rw [List.length_map]; omega)] at p5
          exact q H5 _ (c4.trans (Chg.of_same s5)) (w4.same s5) (.arr ⟨nD2, by rw [h5]; simp⟩ (SqL.of h5) (PlsAt.mono (fun b hb => hb.1) p5))
  unfold RWire.readKind at hrd
  split at hrd
  · rename_i ek
    refine ⟨_, rfl, rfl, _, rfl, itT (ye 0 ek) ?_⟩
    cases hrd
    intro x dx hx hdx nd
    refine ⟨x, dx, rfl, upd_same, fun H2 e c2 h2 => ⟨rfl, fin H2 _ (mk_same hx hdx c2) (.undef h2) rfl⟩⟩
  · rename_i ek
    refine ⟨_, rfl, rfl, _, rfl, itF (nq 1 0 ek (by decide)) ⟨_, rfl, rfl, _, rfl, itT (ye 1 ek) ?_⟩⟩
    cases hrd
    exact fin H1 _ (Same.refl H1) .null rfl
  · rename_i ek
    refine ⟨_, rfl, rfl, _, rfl, itF (nq 2 0 ek (by decide)) ⟨_, rfl, rfl, _, rfl, itF (nq 2 1 ek (by decide)) ⟨_, rfl, rfl, _, rfl, itT (ye 2 ek) (itT rfl ⟨_, rfl, rfl, ?_⟩)⟩⟩⟩
    cases hrd
    rw [nq 2 3 ek (by decide)]
    exact fin H1 _ (Same.refl H1) (.bool false) rfl
  · rename_i ek
    refine ⟨_, rfl, rfl, _, rfl, itF (nq 3 0 ek (by decide)) ⟨_, rfl, rfl, _, rfl, itF (nq 3 1 ek (by decide)) ⟨_, rfl, rfl, _, rfl, itF (nq 3 2 ek (by decide)) ⟨_, rfl, rfl, _, rfl, itT (ye 3 ek) ⟨_, rfl, rfl, ?_⟩⟩⟩⟩⟩
    cases hrd
    have e := ye 3 ek
    rw [show ((3 : Nat) : Int) = 3 from rfl] at e
    rw [e]
    exact fin H1 _ (Same.refl H1) (.bool true) rfl
  · rename_i ek
    refine ⟨_, rfl, rfl, _, rfl, itF (nq 4 0 ek (by decide)) ⟨_, rfl, rfl, _, rfl, itF (nq 4 1 ek (by decide)) ⟨_, rfl, rfl, _, rfl, itF (nq 4 2 ek (by decide)) ⟨_, rfl, rfl, _, rfl, itF (nq 4 3 ek (by decide)) ⟨_, rfl, rfl, _, rfl, itT (ye 4 ek) ?_⟩⟩⟩⟩⟩
    unfold RWire.readInt RWire.readNum at hrd
    cases e8 : RWire.front 8 r1 with
    | none => rw [e8] at hrd; cases hrd
    | some p =>
      rw [e8] at hrd
      simp only at hrd
      split at hrd
      · cases hrd
        refine ⟨_, rfl, r, _, _, rfl, h1r, noRow_take, r, o, os, r1, 8, p.1, p.2, rfl, w1, e8, fun H2 D2 c2 w2 n2 h2 => ⟨D2, p.1, rfl, SqL.of h2, fun H3 s3 => ?_⟩⟩
        have w3 := w2.same s3
        have c3 := (c1.trans c2).trans (Chg.of_same s3)
        have q := q H3 (.int (RWire.intOf (RWire.numOf p.1))) c3 w3 (taken_int _)
        obtain ⟨c9, hc9⟩ : ∃ c9 : Bool, decide (((RWire.numOf p.1 : Nat) : Int) < 18446744073709551616 / 2) = c9 := ⟨_, rfl⟩
        refine ⟨_, rfl, _, _, rfl, rfl, ⟨by decide, by decide⟩, _, _, rfl, rfl, c9, congrArg V.bl hc9, ?_⟩
        cases c9 with
        | true =>
          have c9 : ((RWire.numOf p.1 : Nat) : Int) < 18446744073709551616 / 2 := of_decide_eq_true hc9
          rw [intOf_lo _ c9] at q
          exact itT rfl ⟨_, rfl, q⟩
        | false =>
          have c9 : ¬ ((RWire.numOf p.1 : Nat) : Int) < 18446744073709551616 / 2 := of_decide_eq_false hc9
          rw [intOf_hi _ c9] at q
          exact itF rfl ⟨_, rfl, _, _, rfl, rfl, q⟩
      · cases hrd
  · -- a great integer
    cases r1 with
    | nil => cases hrd
    | cons s0 r0 =>
      unfold RWire.readBig at hrd
      simp only at hrd
      cases e : RWire.readNum 4 r0 with
      | none => rw [e] at hrd; cases hrd
      | some p =>
        rw [e] at hrd
        simp only at hrd
        cases e2 : RWire.front p.1 p.2 with
        | none => rw [e2] at hrd; cases hrd
        | some q =>
          rw [e2] at hrd
          simp only at hrd
          split at hrd
          · cases hrd
          · cases hrd
            cases nb
  · rename_i ek
    refine ⟨_, rfl, rfl, _, rfl, itF (nq 6 0 ek (by decide)) ⟨_, rfl, rfl, _, rfl, itF (nq 6 1 ek (by decide)) ⟨_, rfl, rfl, _, rfl, itF (nq 6 2 ek (by decide)) ⟨_, rfl, rfl, _, rfl, itF (nq 6 3 ek (by decide)) ⟨_, rfl, rfl, _, rfl, itF (nq 6 4 ek (by decide)) ⟨_, rfl, rfl, _, rfl, itT (ye 6 ek) ?_⟩⟩⟩⟩⟩⟩
    unfold RWire.readWords RWire.readText at hrd
    cases e4 : RWire.readNum 4 r1 with
    | none => rw [e4] at hrd; cases hrd
    | some p =>
      rw [e4] at hrd
      simp only at hrd
      cases e5 : RWire.front p.1 p.2 with
      | none => rw [e5] at hrd; cases hrd
      | some u =>
        rw [e5] at hrd
        cases hrd
        refine ⟨_, rfl, r, _, _, rfl, h1r, noRow_take, _, rfl, r, _, _, rfl, h1r, noRow_count, r, o, os, r1, p.1, p.2, rfl, w1, e4, fun H2 c2 w2 => ⟨r, o, os, p.2, p.1, u.1, u.2, rfl, w2, e5, fun H3 D3 c3 w3 n3 h3 => ⟨D3, _, rfl, .inl ⟨SqL.of h3, fun L hL => fun x dx hx hdx nd => ⟨x, dx, .ref L, rfl, upd_same, fun H4 c4 h4 => ⟨rfl, ?_⟩⟩⟩⟩⟩⟩
        have s3 : Same H3 (upd H3 L (.tup (u.1.map octT))) := same_upd hL
        have s4 := mk_same hx hdx c4
        have s34 := s3.trans s4
        refine q H4 _ (((c1.trans c2).trans c3).trans (Chg.of_same s34)) (w3.same s34) (.str h4 ?_)
        rw [unit_octs]
        exact SqT.of (s4 _ _ upd_same)
  · rename_i ek
    exact absurd (.inl ek) h78
  · rename_i ek
    exact absurd (.inr ek) h78
  · -- octets
    unfold RWire.readOctets at hrd
    cases e : RWire.readText r1 with
    | none => rw [e] at hrd; cases hrd
    | some p => rw [e] at hrd; cases hrd; cases no
  · unfold RWire.readWide at hrd
    cases e : RWire.readNum 4 r1 with
    | none => rw [e] at hrd; cases hrd
    | some p =>
      rw [e] at hrd
      simp only at hrd
      cases e2 : RWire.readSigns p.1 p.2 with
      | none => rw [e2] at hrd; cases hrd
      | some q =>
        rw [e2] at hrd
        simp only at hrd
        split at hrd
        · cases hrd; cases nw
        · cases hrd
  · cases hrd
theorem ok_Row_one_value (T : TX K mg) (c_number_in : SB.Cal P w K mg base 1 "number_in" (sp_number_in T)) (m_Nothing : SB.Mak P w K mg base 1 "Nothing" T.Nothing (sp_Nothing___init__ T)) (m_Record : SB.Mak P w K mg base 1 "Record" T.Record (sp_Record___init__ T)) (m_Row_count : SB.Met P w K mg base 2 T.Row "count" (sp_Row_count T)) (m_Row_take : SB.Met P w K mg base 1 T.Row "take" (sp_Row_take T)) (m_Text : SB.Mak P w K mg base 1 "Text" T.Text (sp_Text___init__ T)) {f : Addr} {fd : FuncData} (F : Fun K "one_value" "Row.one_value" s_Row_one_value f fd) (cl : Cls K T.Row) (me : Meth K T.Row "one_value" f) (bd : Binds K fd ["self"] []) : ∀ n, FnOk P w K mg base CX0 (n + 6) f fd ["self"] (spl_Row_one_value T n)
  | 0 => ⟨fun _ _ _ _ h => (no0_Row_one_value T h).elim, fun _ _ _ _ _ _ _ _ _ _ _ _ _ h => (no0_Row_one_value T h).elim⟩
  | n + 1 => st_Row_one_value T c_number_in m_Nothing m_Record m_Row_count m_Row_take m_Text F n ⟨f, fd, _, cl, me, ok_Row_one_value T c_number_in m_Nothing m_Record m_Row_count m_Row_take m_Text F cl me bd n, bd⟩

end
end SP

/-! ## V3 -/
set_option maxHeartbeats 4000000
namespace SP
open PySem PySem.Spec PyProof.Rows L2 SB
open SS (VC VG R Sz RateOk treeW ratesOf leadsTo)
open R7244e.Spec (reachable recurrentStates hasOneClass canMeet distribution wordProb endState coverage separation unstopped stopProbs survival entry target)
section
variable {P : Program} {w : World} {base : Heap}
variable {K : PySem.W.Frag} {mg : Str → Option Value}

theorem same_of_chg {H H' : Hp} {r : Addr} (n : H r = none) (c : Chg (· = r) H H') : Same H H' := fun b o e => c b o e (ne_of_none e n)
abbrev s_read_request : Stmt := topS 33
theorem sc_read_request : FnScope ["octets", "row", "door", "many", "turn"] ["octets"] (defScope s_read_request) := SB.sc_by (by decide +kernel)
theorem len_read_request {T : TX K mg} : ∀ vs H Q E, sp_read_request T vs H Q E → vs.length = (["octets"] : List Str).length := by
  rintro _ H Q E ⟨_, _, _, _, rfl, _⟩
  rfl
theorem ok_read_request (T : TX K mg) (c_number_in : SB.Cal P w K mg base 1 "number_in" (sp_number_in T)) (m_Row : SB.Mak P w K mg base 1 "Row" T.Row (sp_Row___init__ T)) (m_Row_one_value : SB.Met P w K mg base 60 T.Row "one_value" (sp_Row_one_value T)) (m_Row_take : SB.Met P w K mg base 1 T.Row "take" (sp_Row_take T))  {f : Addr} {fd : FuncData} (F : Fun K "read_request" "read_request" s_read_request f fd) : FnOk P w K mg base CX0 61 f fd ["octets"] (sp_read_request T) := by
  refine F.ok sc_read_request len_read_request (fun cdv A outer s H vs Q E hr h => ⟨_, (pss_cons (ps_set (i := 1) sc_read_request.nd rfl (by first | exact Or.inl rfl | exact Or.inr rfl) (SB.mak m_Row hr (by decide) rfl (pa_cons (pv 0) pa_nil))) (pss_cons (ps_set (i := 2) sc_read_request.nd rfl (by first | exact Or.inl rfl | exact Or.inr rfl) (SB.cal c_number_in hr (by decide) rfl (pa_cons (SB.met m_Row_take hr (by decide) (pv 1) (pa_cons pe_int pa_nil)) pa_nil))) (pss_cons (ps_set (i := 3) sc_read_request.nd rfl (by first | exact Or.inl rfl | exact Or.inr rfl) (pe_ix (SB.kIxL (K := K) rfl) (SB.met m_Row_take hr (by decide) (pv 1) (pa_cons pe_int pa_nil)) pe_int (fun _ _ => rfl))) (pss_one (ps_ret (pe_tup (pa_cons (pv 2) (pa_cons (pe_lc (own := [("turn", 4)]) (g := (gName 4)) (tt := tYes) (by rfl) sc_read_request.nd (pi_range1 (by rfl) T.b_range (pa_cons (pv 3) pa_nil)) (blkOk_by (own := [("turn", 4)]) (N := ["octets", "row", "door", "many", "turn"]) (sc := (defScope s_read_request)) (by decide +kernel)) (fun _ _ _ _ _ => (pg_name (i := 4) sc_read_request.nd rfl (by first | exact Or.inl rfl | exact Or.inr rfl))) (fun _ _ _ _ _ => pts_nil) (fun _ _ _ _ _ => (SB.met0 m_Row_one_value hr (by decide) (pv 1)))) pa_nil)))))))), ?_⟩)
  obtain ⟨o, os, d, l, rfl, ho, hl, hrq, hk, q⟩ := h
  match os, hrq with
  | [], hrq => cases hrq
  | [_], hrq => cases hrq
  | [_, _], hrq => cases hrq
  | a :: b :: nn :: r0, hrq =>
  unfold RWire.readRequest at hrq
  simp only at hrq
  cases ea : RWire.readArgs nn.toNat r0 with
  | none => rw [ea] at hrq; cases hrq
  | some l0 =>
  rw [ea] at hrq
  cases hrq
  unfold RWire.readArgs at ea
  have em : RWire.readMany (RWire.readF RWire.nestMost) nn.toNat r0 = some (l, []) := by
    split at ea
    · rename_i e
      cases ea
      exact e
    · cases ea
  have hall : ∀ v ∈ l, RWire.noBig v = true ∧ RWire.noOctets v = true ∧ RWire.noWide v = true := by
    have hk : ((false || RWire.noBigMany l) && (false || RWire.noOctetsMany l) && (false || RWire.noWideMany l)) = true := hk
    simp only [Bool.false_or, Bool.and_eq_true] at hk
    exact many_all hk.1.1 hk.1.2 hk.2
  refine ⟨_, rfl, fun r dx hr1 hdx nd => ⟨r, dx, o, a :: b :: nn :: r0, rfl, upd_same, ?_, hl, fun H1 c1 w1 => ⟨rfl, ?_⟩⟩⟩
  · rw [upd_ne (ne_of_none ho hr1), upd_ne (ne_of_none ho hdx)]
    exact ho
  have s1 := mk_same hr1 hdx c1
  obtain ⟨_, _, h1r, _⟩ := id w1
  refine ⟨_, rfl, r, _, _, rfl, h1r, noRow_take, r, o, _, _, 2, [a, b], nn :: r0, rfl, w1, rfl, fun H2 D2 c2 w2 n2 h2 => ⟨D2, [a, b], rfl, SqL.of h2, fun H3 s3 => ?_⟩⟩
  have w3 := w2.same s3
  obtain ⟨_, _, h3r, _⟩ := id w3
  refine ⟨_, rfl, r, _, _, rfl, h3r, noRow_take, r, o, _, _, 1, [nn], r0, rfl, w3, rfl, fun H4 D4 c4 w4 n4 h4 => ⟨D4, _, 0, _, rfl, rfl, SqL.of h4, rfl, ?_⟩⟩
  have c14 : Chg (· = r) H1 H4 := (c2.trans (Chg.of_same s3)).trans c4
  have c04 : Chg (· = r) H H4 := (Chg.of_same s1).trans c14
  obtain ⟨_, _, h4r, h4o, _⟩ := id w4
  have n255 : nn.toNat < 256 := nn.toNat_lt
  have en : (((nn.toNat : Nat) : Int)).toNat = nn.toNat := Int.toNat_natCast _
  refine ⟨_, rfl, _, rfl, _, rfl, ?_, ?_, fun D hD => ?_⟩
  · show -(2 ^ 62) ≤ ((nn.toNat : Nat) : Int)
    omega
  · show ((nn.toNat : Nat) : Int) < 2 ^ 62
    omega
  show ∃ W, _
  have nD0 : H D = none := by
    have := chg_free c04 h4r hD
    exact this
  refine lc_range (lo := 0) (n := nn.toNat) (fun j H5 => ∃ (vs : List V) (rj : List UInt8) (lj tj : List RWire.Value), Chg (· = r) H4 H5 ∧ RowAt T H5 r o (a :: b :: nn :: r0) rj ∧ H5 D = some (.lst vs) ∧ PlsAt T (fun b => FreshA H H5 b ∧ b ≠ D) H5 false vs (lj.map Rust.taken) ∧ RWire.readMany (RWire.readF RWire.nestMost) (nn.toNat - j) rj = some (tj, []) ∧ lj ++ tj = l ∧ lj.length = j)
    ⟨[], r0, [], l, Chg.of_same (same_upd hD), w4.same (same_upd hD), upd_same, .nil, by rw [Nat.sub_zero]; exact em, rfl, rfl⟩ ?_ ?_
  · rintro j H5 hj ⟨vs, rj, lj, tj, c5, w5, h5, p5, em5, el, ll⟩
    obtain ⟨m, hm⟩ : ∃ m, nn.toNat - j = m + 1 := ⟨nn.toNat - j - 1, by omega⟩
    rw [hm] at em5
    unfold RWire.readMany at em5
    cases e1 : RWire.readF RWire.nestMost rj with
    | none => rw [e1] at em5; cases em5
    | some x =>
      rw [e1] at em5
      simp only at em5
      cases e2 : RWire.readMany (RWire.readF RWire.nestMost) m x.2 with
      | none => rw [e2] at em5; cases em5
      | some y =>
        rw [e2] at em5
        have e3 := Option.some.inj em5
        have e4 : x.1 :: y.1 = tj := congrArg Prod.fst e3
        have e5 : y.2 = [] := congrArg Prod.snd e3
        subst e4
        have hx := hall x.1 (by rw [← el]; simp)
        obtain ⟨_, _, h5r, h5o, _⟩ := id w5
        have nrD : D ≠ r := fun z => by rw [z, h5r] at h5; cases h5
        refine ⟨rfl, lcYes ⟨_, rfl, r, _, _, rfl, h5r, noRow_one_value, r, o, _, rj, x.1, x.2, rfl, w5, e1, hx.1, hx.2.1, hx.2.2, fun H6 u c6 w6 p6 => ?_⟩⟩
        have h6 := c6 _ _ h5 nrD
        obtain ⟨_, _, h6r, h6o, _⟩ := id w6
        have noD : o ≠ D := ne_of_none h4o hD
        have g1 : PlsAt T (fun b => FreshA H H6 b ∧ b ≠ D) H6 false (vs ++ [u]) ((lj ++ [x.1]).map Rust.taken) := by
          rw [List.map_append]
          refine PlsAt.snoc ((p5.off (w5.offP (I := fun b => FreshA H H5 b ∧ b ≠ D)) c6).mono fun b hb => ⟨⟨hb.1.1, fun z => hb.1.2 (chg_free c6 h6r z)⟩, hb.2⟩) (p6.mono fun b hb => ⟨⟨?_, hb.2⟩, fun z => ?_⟩)
          · exact chg_free c04 h4r (chg_free c5 h5r hb.1)
          · rw [z] at hb
            exact absurd hb.1 (by rw [h5]; simp)
        refine ⟨vs, h6, ?_, vs ++ [u], x.2, lj ++ [x.1], y.1, chg_upd (c5.trans c6) (.inl hD), w6.updL h6 noD, upd_same, PlsAt.keep (keeps_upd h6 (fun b hb => ⟨⟨hb.1.1, fun z => hb.1.2 (free_upd z)⟩, hb.2⟩) (fun b hb => hb.2)) (fun z => z) g1, ?_, ?_, ?_⟩
        · have := p5.len
          rw [List.length_map, ll] at this
          exact lt_line (by omega)
        · rw [show nn.toNat - (j + 1) = m by omega]
          rw [e2, ← e5]
        · rw [← el, List.append_assoc]
          rfl
        · rw [List.length_append, ll]
          rfl
  · rintro H5 ⟨vs, rj, lj, tj, c5, w5, h5, p5, em5, el, ll⟩
    rw [Nat.sub_self] at em5
    cases em5
    rw [List.append_nil] at el
    subst el
    refine ⟨le_line (by show 2 ≤ _; decide), fun P hP => ?_⟩
    have c15 : Chg (· = r) H1 H5 := c14.trans c5
    have nr0 : H r = none := hr1
    have s05 : Same H H5 := same_of_chg nr0 ((Chg.of_same s1).trans c15)
    refine q _ P D vs (s05.trans (same_upd hP)) ?_ nD0 (upd_keep h5 hP) ?_
    · have e : RWire.numOf [a, b] = a.toNat + 256 * b.toNat := by
        show a.toNat + 256 * (b.toNat + 256 * 0) = _
        omega
      rw [← e]
      exact SqT.of upd_same
    · rw [takenAll_eq]
      exact (p5.same (same_upd hP)).mono fun b hb => ⟨⟨hb.1.1, fun z => hb.1.2 (free_upd z)⟩, hb.2⟩

end
end SP

/-! ## V4 -/
set_option maxHeartbeats 4000000
namespace SP
open PySem PySem.Spec PyProof.Rows L2 SB
open SS (VC VG R Sz RateOk treeW ratesOf leadsTo)
open R7244e.Spec (reachable recurrentStates hasOneClass canMeet distribution wordProb endState coverage separation unstopped stopProbs survival entry target)
section
variable {P : Program} {w : World} {base : Heap}
variable {K : PySem.W.Frag} {mg : Str → Option Value}

theorem givenAll_eq : ∀ l : List Plain, Rust.givenAll l = l.map Rust.given
  | [] => rfl
  | v :: l => by
    show Rust.given v :: Rust.givenAll l = _
    rw [givenAll_eq l]
    rfl
def givenE (e : Units × Plain) : RWire.Text × RWire.Value := (e.1.map Rust.octetOf, Rust.given e.2)
theorem givenFields_eq : ∀ l : List (Units × Plain), Rust.givenFields l = l.map givenE
  | [] => rfl
  | (n, v) :: l => by
    show (n.map Rust.octetOf, Rust.given v) :: Rust.givenFields l = _
    rw [givenFields_eq l]
    rfl
theorem writeMany_snoc : ∀ (l : List RWire.Value) (v : RWire.Value), RWire.writeMany (l ++ [v]) = RWire.writeMany l ++ RWire.write v
  | [], v => by
    show RWire.write v ++ [] = [] ++ RWire.write v
    rw [List.append_nil, List.nil_append]
  | a :: l, v => by
    show RWire.write a ++ RWire.writeMany (l ++ [v]) = (RWire.write a ++ RWire.writeMany l) ++ RWire.write v
    rw [writeMany_snoc l v, List.append_assoc]
theorem writeEntries_snoc : ∀ (l : List (RWire.Text × RWire.Value)) (e : RWire.Text × RWire.Value), RWire.writeEntries (l ++ [e]) = RWire.writeEntries l ++ (RWire.writeText e.1 ++ RWire.write e.2)
  | [], e => by
    show RWire.writeText e.1 ++ (RWire.write e.2 ++ []) = [] ++ _
    rw [List.append_nil, List.nil_append]
  | a :: l, e => by
    show RWire.writeText a.1 ++ (RWire.write a.2 ++ RWire.writeEntries (l ++ [e])) = (RWire.writeText a.1 ++ (RWire.write a.2 ++ RWire.writeEntries l)) ++ _
    rw [writeEntries_snoc l e]
    simp only [List.append_assoc]
theorem writeMany_take (l : List RWire.Value) : ∀ i, (RWire.writeMany (l.take i)).length ≤ (RWire.writeMany l).length
  | 0 => Nat.zero_le _
  | i + 1 => match l with
    | [] => Nat.le_refl _
    | a :: l => by
      show (RWire.write a ++ RWire.writeMany (l.take i)).length ≤ (RWire.write a ++ RWire.writeMany l).length
      rw [List.length_append, List.length_append]
      have := writeMany_take l i
      omega
theorem writeEntries_take (l : List (RWire.Text × RWire.Value)) : ∀ i, (RWire.writeEntries (l.take i)).length ≤ (RWire.writeEntries l).length
  | 0 => Nat.zero_le _
  | i + 1 => match l with
    | [] => Nat.le_refl _
    | a :: l => by
      show (RWire.writeText a.1 ++ (RWire.write a.2 ++ RWire.writeEntries (l.take i))).length ≤ (RWire.writeText a.1 ++ (RWire.write a.2 ++ RWire.writeEntries l)).length
      rw [List.length_append, List.length_append, List.length_append, List.length_append]
      have := writeEntries_take l i
      omega
theorem many_at : ∀ {l : List RWire.Value} {i : Nat} {v : RWire.Value}, l[i]? = some v → RWire.depth v ≤ RWire.depthMany l ∧ (RWire.fineMany l = true → RWire.fine v = true) ∧ (RWire.write v).length ≤ (RWire.writeMany l).length
  | [], _, _, e => by simp at e
  | a :: l, 0, v, e => by
    simp at e
    subst e
    refine ⟨Nat.le_max_left _ _, fun h => ?_, ?_⟩
    · unfold RWire.fineMany at h
      rw [Bool.and_eq_true] at h
      exact h.1
    · show _ ≤ (RWire.write a ++ RWire.writeMany l).length
      rw [List.length_append]
      omega
  | a :: l, i + 1, v, e => by
    obtain ⟨h1, h2, h3⟩ := many_at (l := l) (i := i) (v := v) (by simpa using e)
    refine ⟨Nat.le_trans h1 (Nat.le_max_right _ _), fun h => ?_, ?_⟩
    · unfold RWire.fineMany at h
      rw [Bool.and_eq_true] at h
      exact h2 h.2
    · show _ ≤ (RWire.write a ++ RWire.writeMany l).length
      rw [List.length_append]
      omega
theorem entries_at : ∀ {l : List (RWire.Text × RWire.Value)} {i : Nat} {e : RWire.Text × RWire.Value}, l[i]? = some e → RWire.depth e.2 ≤ RWire.depthEntries l ∧ (RWire.fineEntries l = true → RWire.fine e.2 = true) ∧ (RWire.write e.2).length ≤ (RWire.writeEntries l).length ∧ (RWire.writeText e.1).length ≤ (RWire.writeEntries l).length
  | [], _, _, e => by simp at e
  | a :: l, 0, v, e => by
    simp at e
    subst e
    refine ⟨Nat.le_max_left _ _, fun h => ?_, ?_, ?_⟩
    · unfold RWire.fineEntries at h
      rw [Bool.and_eq_true, Bool.and_eq_true] at h
      exact h.2.1
    · show _ ≤ (RWire.writeText a.1 ++ (RWire.write a.2 ++ RWire.writeEntries l)).length
      rw [List.length_append, List.length_append]
      omega
    · show _ ≤ (RWire.writeText a.1 ++ (RWire.write a.2 ++ RWire.writeEntries l)).length
      rw [List.length_append]
      omega
  | a :: l, i + 1, v, e => by
    obtain ⟨h1, h2, h3, h4⟩ := entries_at (l := l) (i := i) (e := v) (by simpa using e)
    refine ⟨Nat.le_trans h1 (Nat.le_max_right _ _), fun h => ?_, ?_, ?_⟩
    · unfold RWire.fineEntries at h
      rw [Bool.and_eq_true, Bool.and_eq_true] at h
      exact h2 h.2.2
    · show _ ≤ (RWire.writeText a.1 ++ (RWire.write a.2 ++ RWire.writeEntries l)).length
      rw [List.length_append, List.length_append]
      omega
    · show _ ≤ (RWire.writeText a.1 ++ (RWire.write a.2 ++ RWire.writeEntries l)).length
      rw [List.length_append, List.length_append]
      omega
theorem narrow_at : ∀ {l : List Plain} {i : Nat} {v : Plain}, Rust.narrowAll l = true → l[i]? = some v → Rust.narrow v = true
  | [], _, _, _, e => by simp at e
  | a :: l, 0, v, h, e => by
    simp at e
    subst e
    unfold Rust.narrowAll at h
    rw [Bool.and_eq_true] at h
    exact h.1
  | a :: l, i + 1, v, h, e => by
    unfold Rust.narrowAll at h
    rw [Bool.and_eq_true] at h
    exact narrow_at (l := l) (i := i) (v := v) h.2 (by simpa using e)
theorem narrowF_at : ∀ {l : List (Units × Plain)} {i : Nat} {v : Units × Plain}, Rust.narrowFields l = true → l[i]? = some v → Rust.narrow v.2 = true ∧ Rust.narrowText v.1 = true
  | [], _, _, _, e => by simp at e
  | a :: l, 0, v, h, e => by
    simp at e
    subst e
    unfold Rust.narrowFields at h
    rw [Bool.and_eq_true, Bool.and_eq_true] at h
    exact ⟨h.2.1, h.1⟩
  | a :: l, i + 1, v, h, e => by
    unfold Rust.narrowFields at h
    rw [Bool.and_eq_true, Bool.and_eq_true] at h
    exact narrowF_at (l := l) (i := i) (v := v) h.2.2 (by simpa using e)
theorem narrow_octs {u : Units} (h : Rust.narrowText u = true) : u.map unitT = (u.map Rust.octetOf).map octT := by
  rw [List.map_map]
  refine List.map_congr_left fun c hc => ?_
  unfold Rust.narrowText at h
  have h := List.all_eq_true.mp h c hc
  have h : c.toNat < 256 := by simpa [Nat.blt_eq] using h
  show intT c.toNat = octT (UInt8.ofNat c.toNat)
  rw [octT_ofNat, Nat.mod_eq_of_lt h]
theorem asc_octs {s : Str} (h : asc s) : strT s = ((ustr s).map Rust.octetOf).map octT := by
  unfold strT ustr
  rw [List.map_map, List.map_map]
  refine List.map_congr_left fun c hc => ?_
  have h := h c hc
  show intT c = octT (UInt8.ofNat (UInt16.ofNat c).toNat)
  rw [octT_ofNat, UInt16.toNat_ofNat', Nat.mod_eq_of_lt (show c < 65536 by omega), Nat.mod_eq_of_lt (by omega)]
theorem no0_value_out (T : TX K mg) {vs : List V} {H : Hp} {Q : VK} {E : XK} (h : spl_value_out T 0 vs H Q E) : False := by
  obtain ⟨v, p, I, _, _, _, _, hd, _⟩ := h
  have : 1 ≤ RWire.depth (Rust.given p) := by
    cases Rust.given p <;> first | exact Nat.le_refl 1 | exact Nat.le_add_left 1 _
  omega
theorem len_value_out {T : TX K mg} {n : Nat} : ∀ vs H Q E, spl_value_out T n vs H Q E → vs.length = (["value"] : List Str).length := by
  rintro _ H Q E ⟨_, _, _, rfl, _⟩
  rfl
theorem writeInt_pos {i : Int} (h : 0 ≤ i) (f : i.natAbs ≤ 9007199254740991) : RWire.writeInt i = RWire.low 8 i.toNat := by
  unfold RWire.writeInt RWire.wordMost
  rw [Int.emod_eq_of_lt h (by omega)]
theorem writeInt_neg {i : Int} (h : ¬ 0 ≤ i) (f : i.natAbs ≤ 9007199254740991) : RWire.writeInt i = RWire.low 8 (i + 18446744073709551616).toNat := by
  unfold RWire.writeInt RWire.wordMost
  have e : i % 18446744073709551616 = (i + 18446744073709551616) % 18446744073709551616 := by rw [Int.add_emod_right]
  rw [e, Int.emod_eq_of_lt (by omega) (by omega)]
abbrev s_value_out : Stmt := topS 35
theorem sc_value_out : FnScope ["value", "told", "name", "member"] ["value"] (defScope s_value_out) := SB.sc_by (by decide +kernel)
theorem st_value_out (T : TX K mg) (c_number_out : SB.Cal P w K mg base 1 "number_out" (sp_number_out T)) (c_octets_of : SB.Cal P w K mg base 1 "octets_of" (sp_octets_of T)) (c_text_out : SB.Cal P w K mg base 2 "text_out" (sp_text_out T)) {f : Addr} {fd : FuncData} (F : Fun K "value_out" "value_out" s_value_out f fd) (n : Nat) (c_value_out : SB.Cal P w K mg base (n + 6) "value_out" (spl_value_out T n)) : FnOk P w K mg base CX0 (n + 6 + 1) f fd ["value"] (spl_value_out T (n + 1)) := by
  refine F.ok (k := n + 6) sc_value_out len_value_out (fun cdv A outer s H vs Q E hr h => ⟨_, (pss_cons (ps_if (pt_val (pe_callB (SB.kIsi (K := K) rfl) (by rfl) T.b_isinstance (by decide +kernel) (pa_cons (pv 0) (pa_cons (pe_glob (v := .ref T.Nothing) rfl T.gNothing rfl) pa_nil)))) (pss_one (ps_ret (pe_lst (pa_cons pe_int pa_nil)))) pss_nil) (pss_cons (ps_if (pt_cmpR op_isN (pv 0) pe_non (nomark _)) (pss_one (ps_ret (pe_lst (pa_cons pe_int pa_nil)))) pss_nil) (pss_cons (ps_if (PW.pt (pw_or (pt_cmpR op_isX (pv 0) pe_bl (nomark _)) (pw_or1 (pt_cmpR op_isX (pv 0) pe_bl (nomark _))))) (pss_one (ps_ret (pe_lst (pa_cons (pe_ifExp (pt_truth (pv 0) (by intro _; rfl)) pe_int pe_int) pa_nil)))) pss_nil) (pss_cons (ps_if (pt_val (pe_callB (SB.kIsi (K := K) rfl) (by rfl) T.b_isinstance (by decide +kernel) (pa_cons (pv 0) (pa_cons (pe_bltn (v := .ty "int") (u := .type "int") (by rfl) T.b_int (by decide +kernel) rfl) pa_nil)))) (pss_one (ps_ret (pe_op op_cat (pe_lst (pa_cons pe_int pa_nil)) (SB.cal c_number_out hr (by omega) rfl (pa_cons (pe_ifExp (pt_cmpR op_ge (pv 0) pe_int (nomark _)) (pv 0) (pe_op op_add (pv 0) (pe_glob (v := .int 18446744073709551616) rfl T.gWRAP ⟨_, rfl⟩))) (pa_cons pe_int pa_nil)))))) pss_nil) (pss_cons (ps_if (pt_val (pe_callB (SB.kIsi (K := K) rfl) (by rfl) T.b_isinstance (by decide +kernel) (pa_cons (pv 0) (pa_cons (pe_bltn (v := .ty "str") (u := .type "str") (by rfl) T.b_str (by decide +kernel) rfl) pa_nil)))) (pss_one (ps_ret (pe_op op_cat (pe_lst (pa_cons pe_int pa_nil)) (SB.cal c_text_out hr (by omega) rfl (pa_cons (SB.cal c_octets_of hr (by omega) rfl (pa_cons (pv 0) pa_nil)) pa_nil))))) pss_nil) (pss_cons (ps_if (pt_val (pe_callB (SB.kIsi (K := K) rfl) (by rfl) T.b_isinstance (by decide +kernel) (pa_cons (pv 0) (pa_cons (pe_glob (v := .ref T.Text) rfl T.gText rfl) pa_nil)))) (pss_one (ps_ret (pe_op op_cat (pe_lst (pa_cons pe_int pa_nil)) (SB.cal c_text_out hr (by omega) rfl (pa_cons (SB.kFld (K := K) rfl (pv 0) rfl) pa_nil))))) pss_nil) (pss_cons (ps_if (pt_val (pe_callB (SB.kIsi (K := K) rfl) (by rfl) T.b_isinstance (by decide +kernel) (pa_cons (pv 0) (pa_cons (pe_glob (v := .ref T.Record) rfl T.gRecord rfl) pa_nil)))) (pss_cons (ps_set (i := 1) sc_value_out.nd rfl (by first | exact Or.inl rfl | exact Or.inr rfl) (pe_op op_cat (pe_lst (pa_cons pe_int pa_nil)) (SB.cal c_number_out hr (by omega) rfl (pa_cons (pe_callB (SB.kLen (K := K) rfl) (by rfl) T.b_len PySem.boot_len (pa_cons (SB.kFld (K := K) rfl (pv 0) rfl) pa_nil)) (pa_cons pe_int pa_nil))))) (pss_cons (ps_for (by first | exact PassesOwn.never | exact passes_of rfl) rfl (SB.kPiL (K := K) rfl (SB.kFld (K := K) rfl (pv 0) rfl)) (pg_tup (by rfl) (pgs_cons (pg_name (i := 2) sc_value_out.nd rfl (by first | exact Or.inl rfl | exact Or.inr rfl)) (pgs_cons (pg_name (i := 3) sc_value_out.nd rfl (by first | exact Or.inl rfl | exact Or.inr rfl)) pgs_nil))) (pss_one (ps_expr (pe_bm PySem.F.plainAttrs_list PySem.F.slot_list_extend PySem.F.type_list_extend mt_extend (pv 1) (pa_cons (pe_op op_cat (SB.cal c_text_out hr (by omega) rfl (pa_cons (pv 2) pa_nil)) (SB.cal c_value_out hr (by omega) rfl (pa_cons (pv 3) pa_nil))) pa_nil))))) (pss_one (ps_ret (pv 1))))) pss_nil) (pss_cons (ps_set (i := 1) sc_value_out.nd rfl (by first | exact Or.inl rfl | exact Or.inr rfl) (pe_op op_cat (pe_lst (pa_cons pe_int pa_nil)) (SB.cal c_number_out hr (by omega) rfl (pa_cons (pe_callB (SB.kLen (K := K) rfl) (by rfl) T.b_len PySem.boot_len (pa_cons (pv 0) pa_nil)) (pa_cons pe_int pa_nil))))) (pss_cons (ps_for (by first | exact PassesOwn.never | exact passes_of rfl) rfl (SB.kPiL (K := K) rfl (pv 0)) (pg_name (i := 3) sc_value_out.nd rfl (by first | exact Or.inl rfl | exact Or.inr rfl)) (pss_one (ps_expr (pe_bm PySem.F.plainAttrs_list PySem.F.slot_list_extend PySem.F.type_list_extend mt_extend (pv 1) (pa_cons (SB.cal c_value_out hr (by omega) rfl (pa_cons (pv 3) pa_nil)) pa_nil))))) (pss_one (ps_ret (pv 1)))))))))))), ?_⟩)
  obtain ⟨v, p, I, rfl, hp, al, hn, hd, hf, hw, q⟩ := h
  obtain ⟨t1, y1, k1⟩ := isi_Nothing hp
  obtain ⟨t2, y2, k2⟩ := isi_int hp
  obtain ⟨t3, y3, k3⟩ := isi_str hp
  obtain ⟨t4, y4, k4⟩ := isi_Text hp
  obtain ⟨t5, y5, k5⟩ := isi_Record hp
  have one : ∀ (o : UInt8) (D : Addr), H D = none → RWire.write (Rust.given p) = [o] → Q (.ref D) (upd H D (.lst [octT o])) := by
    intro o D hD e
    exact q _ D (same_upd hD) hD (by rw [e]; exact upd_same)
  have l0 : ∀ {m : Nat}, m ≤ 1000 → m ≤ sizeLine := fun h => le_line (by omega)
  -- [tag] + so many octets
  have tagged : ∀ (tag : UInt8) (rs : List UInt8) (D1 D2 : Addr) (H2 : Hp), Same H H2 → H2 D1 = some (.lst [octT tag]) → H2 D2 = some (.lst (rs.map octT)) → RWire.write (Rust.given p) = tag :: rs →
      rCat (.ref D1) (.ref D2) H2 Q := by
    intro tag rs D1 D2 H2 s2 h1 h2 e
    rw [e] at hw q
    rw [List.length_cons] at hw
    refine ⟨D1, D2, _, _, rfl, rfl, h1, h2, ?_, fun D3 h3 => q _ D3 (same_upd2 s2 (s2.free h3)) (s2.free h3) upd_same⟩
    rw [List.length_map]
    exact le_line (by show 1 + _ ≤ _; omega)
  refine ⟨_, rfl, v, .ref T.Nothing, t1, .ref T.Nothing, _, rfl, .own _, y1, k1, _, rfl, ?_⟩
  cases hp with
  | undef h => exact itT rfl ⟨l0 (by decide), fun D hD => one 0 D hD rfl⟩
  | null => exact itF rfl ⟨_, rfl, rfl, _, rfl, itT (decide_eq_true rfl) ⟨l0 (by decide), fun D hD => one 1 D hD rfl⟩⟩
  | bool x =>
    refine itF rfl ⟨_, rfl, rfl, _, rfl, itF (decide_eq_false (fun z => nomatch z)) ⟨_, rfl, true, rfl, _, rfl, ?_⟩⟩
    cases x with
    | true =>
      refine itT (decide_eq_true rfl) (itT rfl ⟨_, rfl, _, rfl, itT rfl ⟨l0 (by decide), fun D hD => one 3 D hD rfl⟩⟩)
    | false =>
      refine itF (decide_eq_false (fun z => nomatch z)) ⟨_, rfl, false, rfl, _, rfl, itT (decide_eq_true rfl) ⟨_, rfl, _, rfl, itF rfl ⟨l0 (by decide), fun D hD => one 2 D hD rfl⟩⟩⟩
  | num i =>
    refine itF rfl ⟨_, rfl, rfl, _, rfl, itF (decide_eq_false (fun z => nomatch z)) ⟨_, rfl, true, rfl, _, rfl, itF (decide_eq_false (fun z => nomatch z)) ⟨_, rfl, false, rfl, _, rfl, itF (decide_eq_false (fun z => nomatch z)) ⟨_, rfl, _, .ty "int", t2, .type "int", _, rfl, .ty "int", y2, k2, _, rfl, itT rfl ?_⟩⟩⟩⟩
    have hf : i.natAbs ≤ 9007199254740991 := by
      have hf : Nat.ble i.natAbs RWire.intMost = true := hf
      exact Nat.le_of_ble_eq_true hf
    refine ⟨l0 (by decide), fun D1 h1 => ⟨_, rfl, _, _, rfl, rfl, _, rfl, ?_⟩⟩
    refine ite2 (fun c1 => ?_) (fun c1 => ?_)
    · have c1 : 0 ≤ i := of_decide_eq_true c1
      refine ⟨_, rfl, i.toNat, 8, by rw [intT, Int.toNat_of_nonneg c1]; rfl, by decide, fun H2 D2 s2 n2 h2 => ?_⟩
      exact tagged 4 _ D1 D2 H2 ((same_upd h1).trans s2) (s2 _ _ upd_same) h2 (by show 4 :: RWire.writeInt i = _; rw [writeInt_pos c1 hf])
    · have c1 : ¬ 0 ≤ i := fun z => c1 (decide_eq_true z)
      refine ⟨_, rfl, _, _, rfl, rfl, (i + 18446744073709551616).toNat, 8, by rw [intT, Int.toNat_of_nonneg (by omega)]; rfl, by decide, fun H2 D2 s2 n2 h2 => ?_⟩
      exact tagged 4 _ D1 D2 H2 ((same_upd h1).trans s2) (s2 _ _ upd_same) h2 (by show 4 :: RWire.writeInt i = _; rw [writeInt_neg c1 hf])
  | pstr s0 z c =>
    refine itF rfl ⟨_, rfl, rfl, _, rfl, itF (decide_eq_false (fun z => nomatch z)) ⟨_, rfl, true, rfl, _, rfl, itF (decide_eq_false (fun z => nomatch z)) ⟨_, rfl, false, rfl, _, rfl, itF (decide_eq_false (fun z => nomatch z)) ⟨_, rfl, _, .ty "int", t2, .type "int", _, rfl, .ty "int", y2, k2, _, rfl, itF rfl ⟨_, rfl, _, .ty "str", t3, .type "str", _, rfl, .ty "str", y3, k3, _, rfl, itT rfl ?_⟩⟩⟩⟩⟩
    have ew : RWire.write (Rust.given (.str (ustr s0))) = 6 :: RWire.writeText ((ustr s0).map Rust.octetOf) := rfl
    have lw : s0.cps.size ≤ 70000 := by
      have hw : (6 :: RWire.writeText ((ustr s0).map Rust.octetOf)).length ≤ 65536 := hw
      unfold RWire.writeText ustr at hw
      rw [List.length_cons, List.length_append, List.length_map, List.length_map] at hw
      have e := s0.cps.length_toList
      omega
    refine ⟨l0 (by decide), fun D1 h1 => ⟨_, rfl, s0, rfl, c, lw, fun H2 D2 s2 n2 h2 => ⟨D2, (ustr s0).map Rust.octetOf, rfl, ?_, ?_, fun H3 D3 s3 n3 h3 => ?_⟩⟩⟩
    · rw [← asc_octs c]
      exact .inl (SqL.of h2)
    · unfold ustr
      rw [List.length_map, List.length_map, Array.length_toList]
      exact lw
    · exact tagged 6 _ D1 D3 H3 ((same_upd h1).trans (s2.trans s3)) (s3 _ _ (s2 _ _ upd_same)) h3 ew
  | @str a dx e u h hq =>
    refine itF rfl ⟨_, rfl, rfl, _, rfl, itF (decide_eq_false (fun z => nomatch z)) ⟨_, rfl, true, rfl, _, rfl, itF (decide_eq_false (fun z => nomatch z)) ⟨_, rfl, false, rfl, _, rfl, itF (decide_eq_false (fun z => nomatch z)) ⟨_, rfl, _, .ty "int", t2, .type "int", _, rfl, .ty "int", y2, k2, _, rfl, itF rfl ⟨_, rfl, _, .ty "str", t3, .type "str", _, rfl, .ty "str", y3, k3, _, rfl, itF rfl ⟨_, rfl, _, .ref T.Text, t4, .ref T.Text, _, rfl, .own _, y4, k4, _, rfl, itT rfl ?_⟩⟩⟩⟩⟩⟩
    have hn : Rust.narrowText u = true := by
      have hn : (Rust.wideTold || Rust.narrowText u) = true := hn
      exact hn
    have ew : RWire.write (Rust.given (.str u)) = 6 :: RWire.writeText (u.map Rust.octetOf) := rfl
    have lw : u.length ≤ 70000 := by
      have hw : (6 :: RWire.writeText (u.map Rust.octetOf)).length ≤ 65536 := hw
      unfold RWire.writeText at hw
      rw [List.length_cons, List.length_append, List.length_map] at hw
      omega
    refine ⟨l0 (by decide), fun D1 h1 => ?_⟩
    have s1 : Same H (upd H D1 (.lst [octT 6])) := same_upd h1
    have hs := s1 _ _ h
    refine ⟨_, rfl, a, T.Text, _, _, _, rfl, hs, T.clText, T.nText_octets, lkText_octets, e, u.map Rust.octetOf, rfl, ?_, by rw [List.length_map]; exact lw, fun H3 D3 s3 n3 h3 => ?_⟩
    · rw [← narrow_octs hn]
      exact .inr (same_tup s1 hq)
    · exact tagged 6 _ D1 D3 H3 (s1.trans s3) (s3 _ _ upd_same) h3 ew
  | @obj a dx m ms l h i hq hfs =>
    refine itF rfl ⟨_, rfl, rfl, _, rfl, itF (decide_eq_false (fun z => nomatch z)) ⟨_, rfl, true, rfl, _, rfl, itF (decide_eq_false (fun z => nomatch z)) ⟨_, rfl, false, rfl, _, rfl, itF (decide_eq_false (fun z => nomatch z)) ⟨_, rfl, _, .ty "int", t2, .type "int", _, rfl, .ty "int", y2, k2, _, rfl, itF rfl ⟨_, rfl, _, .ty "str", t3, .type "str", _, rfl, .ty "str", y3, k3, _, rfl, itF rfl ⟨_, rfl, _, .ref T.Text, t4, .ref T.Text, _, rfl, .own _, y4, k4, _, rfl, itF rfl ⟨_, rfl, _, .ref T.Record, t5, .ref T.Record, _, rfl, .own _, y5, k5, _, rfl, itT rfl ?_⟩⟩⟩⟩⟩⟩⟩
    have hn : Rust.narrowFields l = true := hn
    have hd : RWire.depthEntries (l.map givenE) ≤ n := by
      have hd : RWire.depthEntries (Rust.givenFields l) + 1 ≤ n + 1 := hd
      rw [givenFields_eq] at hd
      omega
    have hf : RWire.fineEntries (l.map givenE) = true := by
      have hf : (decide ((Rust.givenFields l).length < RWire.countMost) && (RWire.fineEntries (Rust.givenFields l) && RWire.apart (Rust.givenFields l))) = true := hf
      rw [Bool.and_eq_true, Bool.and_eq_true, givenFields_eq] at hf
      exact hf.2.1
    have ew : RWire.write (Rust.given (.obj l)) = 8 :: (RWire.low 4 l.length ++ RWire.writeEntries (l.map givenE)) := by
      show 8 :: (RWire.writeCount (Rust.givenFields l).length ++ RWire.writeEntries (Rust.givenFields l)) = _
      rw [givenFields_eq, List.length_map]
      rfl
    rw [ew] at hw q
    rw [List.length_cons, List.length_append, low_len] at hw
    have lv := hfs.len
    refine ⟨l0 (by decide), fun D1 h1 => ?_⟩
    have s1 : Same H (upd H D1 (.lst [octT 8])) := same_upd h1
    refine ⟨_, rfl, a, T.Record, _, _, _, rfl, (s1 _ _ h), T.clRecord, T.nRecord_members, lkRecord_members, m, ms, rfl, .inl (Same.seq s1 hq), l.length, 4, by rw [lv]; rfl, by decide, fun H2 D2 s2 n2 h2 => ⟨D1, D2, _, _, rfl, rfl, s2 _ _ upd_same, h2, ?_, fun D hD => ?_⟩⟩
    · rw [List.length_map, low_len]
      exact l0 (by show 1 + 4 ≤ _; decide)
    have s12 := s1.trans s2
    have nD := s12.free hD
    have s3 : Same H (upd H2 D (.lst ([octT 8] ++ (RWire.low 4 l.length).map octT))) := same_upd2 s12 nD
    refine ⟨_, rfl, a, T.Record, _, _, _, rfl, (s3 _ _ h), T.clRecord, T.nRecord_members, lkRecord_members, m, rfl, ⟨_, Same.seq s3 hq⟩, ?_⟩
    refine for_list (K := K) (a := m) (xs := ms) (fun i σ H' => ∃ o2 o3 : Option V, σ = [some (.ref a), some (.ref D), o2, o3] ∧ Same H H' ∧ H' D = some (.lst ((8 :: (RWire.low 4 l.length ++ RWire.writeEntries ((l.map givenE).take i))).map octT)))
      ⟨none, none, rfl, s3, by rw [upd_same]; show _ = some (HO.lst ((8 :: (RWire.low 4 l.length ++ [])).map octT)); rw [List.append_nil]; rfl⟩ (fun i σ H' _ ⟨_, _, _, s4, _⟩ => Same.seq s4 hq) ?_ ?_
    · rintro i x σ H4 hx ⟨o2, o3, rfl, s4, h4⟩
      obtain ⟨t, nn, vv, nm, pp, rfl, ep, ht, hnn, hpp⟩ := hfs.get' hx
      have eg : (l.map givenE)[i]? = some (givenE (nm, pp)) := map_get ep
      obtain ⟨b1, b2, b3, b4⟩ := entries_at eg
      obtain ⟨c1, c2⟩ := narrowF_at hn ep
      have b5 := writeEntries_take (l.map givenE) i
      have b6 := writeEntries_take (l.map givenE) (i + 1)
      rw [take_snoc eg, writeEntries_snoc, List.length_append, List.length_append] at b6
      have b6 : (RWire.writeEntries ((l.map givenE).take i)).length + ((RWire.writeText (nm.map Rust.octetOf)).length + (RWire.write (Rust.given pp)).length) ≤ (RWire.writeEntries (l.map givenE)).length := b6
      have b3 : (RWire.write (Rust.given pp)).length ≤ (RWire.writeEntries (l.map givenE)).length := b3
      have b7 : (RWire.writeText (givenE (nm, pp)).1).length = 4 + nm.length := by
        show (RWire.writeCount _ ++ _).length = _
        rw [List.length_append]
        show (RWire.low 4 _).length + (nm.map Rust.octetOf).length = _
        rw [low_len, List.length_map]
      refine ⟨t, _, rfl, same_tup s4 ht, rfl, _, _, rfl, _, _, rfl, rfl, _, rfl, .inl ⟨rfl, _, SqL.of h4⟩, _, rfl, nn, nm.map Rust.octetOf, rfl, .inl ?_, ?_, fun H5 D5 s5 n5 h5 => ⟨_, rfl, vv, pp, I, rfl, (hpp.same s4).same s5, al_same (s4.trans s5) al, c1, Nat.le_trans b1 hd, b2 hf, by omega, fun H6 D6 s6 n6 h6 => ⟨D5, D6, _, _, rfl, rfl, s6 _ _ h5, h6, ?_, fun D7 h7 => ⟨D, D7, _, _, rfl, rfl, upd_keep (s6 _ _ (s5 _ _ h4)) h7, upd_same, ?_, ?_⟩⟩⟩⟩
      · rw [← narrow_octs c2]
        exact Same.seq s4 hnn
      · rw [List.length_map]
        omega
      · rw [List.length_map, List.length_map]
        have b8 : (RWire.writeText (List.map Rust.octetOf nm)).length = 4 + nm.length := b7
        exact le_line (by omega)
      · rw [List.length_map, List.length_append, List.length_map, List.length_map, List.length_cons, List.length_append, low_len]
        have b8 : (RWire.writeText (List.map Rust.octetOf nm)).length = 4 + nm.length := b7
        exact le_line (by omega)
      · refine ⟨some (.ref nn), some vv, rfl, same_upd2 (same_upd2 (s4.trans (s5.trans s6)) ((s4.trans (s5.trans s6)).free h7)) nD, ?_⟩
        rw [upd_same, take_snoc eg, writeEntries_snoc]
        have e : ∀ (A B C E : List UInt8), (8 :: (A ++ B)).map octT ++ (C.map octT ++ E.map octT) = (8 :: (A ++ (B ++ (C ++ E)))).map octT := by
          intro A B C E
          simp only [List.map_cons, List.map_append, List.cons_append, List.append_assoc]
        rw [e]
        rfl
    · rintro σ H4 ⟨o2, o3, rfl, s4, h4⟩
      rw [List.take_of_length_le (by rw [List.length_map]; omega)] at h4
      exact ⟨_, rfl, q H4 D s4 nD h4⟩
  | @arr a vs l i hq hps =>
    refine itF rfl ⟨_, rfl, rfl, _, rfl, itF (decide_eq_false (fun z => nomatch z)) ⟨_, rfl, true, rfl, _, rfl, itF (decide_eq_false (fun z => nomatch z)) ⟨_, rfl, false, rfl, _, rfl, itF (decide_eq_false (fun z => nomatch z)) ⟨_, rfl, _, .ty "int", t2, .type "int", _, rfl, .ty "int", y2, k2, _, rfl, itF rfl ⟨_, rfl, _, .ty "str", t3, .type "str", _, rfl, .ty "str", y3, k3, _, rfl, itF rfl ⟨_, rfl, _, .ref T.Text, t4, .ref T.Text, _, rfl, .own _, y4, k4, _, rfl, itF rfl ⟨_, rfl, _, .ref T.Record, t5, .ref T.Record, _, rfl, .own _, y5, k5, _, rfl, itF rfl ?_⟩⟩⟩⟩⟩⟩⟩
    have hn : Rust.narrowAll l = true := hn
    have hd : RWire.depthMany (l.map Rust.given) ≤ n := by
      have hd : RWire.depthMany (Rust.givenAll l) + 1 ≤ n + 1 := hd
      rw [givenAll_eq] at hd
      omega
    have hf : RWire.fineMany (l.map Rust.given) = true := by
      have hf : (decide ((Rust.givenAll l).length < RWire.countMost) && RWire.fineMany (Rust.givenAll l)) = true := hf
      rw [Bool.and_eq_true, givenAll_eq] at hf
      exact hf.2
    have ew : RWire.write (Rust.given (.arr l)) = 7 :: (RWire.low 4 l.length ++ RWire.writeMany (l.map Rust.given)) := by
      show 7 :: (RWire.writeCount (Rust.givenAll l).length ++ RWire.writeMany (Rust.givenAll l)) = _
      rw [givenAll_eq, List.length_map]
      rfl
    rw [ew] at hw q
    rw [List.length_cons, List.length_append, low_len] at hw
    have lv := hps.len
    refine ⟨l0 (by decide), fun D1 h1 => ?_⟩
    have s1 : Same H (upd H D1 (.lst [octT 7])) := same_upd h1
    refine ⟨_, rfl, a, vs, rfl, .inl (Same.seq s1 hq), l.length, 4, by rw [lv]; rfl, by decide, fun H2 D2 s2 n2 h2 => ⟨D1, D2, _, _, rfl, rfl, s2 _ _ upd_same, h2, ?_, fun D hD => ?_⟩⟩
    · rw [List.length_map, low_len]
      exact l0 (by show 1 + 4 ≤ _; decide)
    have s12 := s1.trans s2
    have nD := s12.free hD
    have s3 : Same H (upd H2 D (.lst ([octT 7] ++ (RWire.low 4 l.length).map octT))) := same_upd2 s12 nD
    refine ⟨_, rfl, a, rfl, ⟨_, Same.seq s3 hq⟩, ?_⟩
    refine for_list (K := K) (a := a) (xs := vs) (fun i σ H' => ∃ o2 o3 : Option V, σ = [some (.ref a), some (.ref D), o2, o3] ∧ Same H H' ∧ H' D = some (.lst ((7 :: (RWire.low 4 l.length ++ RWire.writeMany ((l.map Rust.given).take i))).map octT)))
      ⟨none, none, rfl, s3, by rw [upd_same]; show _ = some (HO.lst ((7 :: (RWire.low 4 l.length ++ [])).map octT)); rw [List.append_nil]; rfl⟩ (fun i σ H' _ ⟨_, _, _, s4, _⟩ => Same.seq s4 hq) ?_ ?_
    · rintro i x σ H4 hx ⟨o2, o3, rfl, s4, h4⟩
      obtain ⟨pp, ep, hpp⟩ := hps.get' hx
      have eg : (l.map Rust.given)[i]? = some (Rust.given pp) := map_get ep
      obtain ⟨b1, b2, b3⟩ := many_at eg
      have c1 := narrow_at hn ep
      have b5 := writeMany_take (l.map Rust.given) i
      have b6 := writeMany_take (l.map Rust.given) (i + 1)
      rw [take_snoc eg, writeMany_snoc, List.length_append] at b6
      refine ⟨_, rfl, .inl ⟨rfl, _, SqL.of h4⟩, _, rfl, x, pp, I, rfl, hpp.same s4, al_same s4 al, c1, Nat.le_trans b1 hd, b2 hf, by omega, fun H6 D6 s6 n6 h6 => ⟨D, D6, _, _, rfl, rfl, s6 _ _ h4, h6, ?_, o2, some x, rfl, same_upd2 (s4.trans s6) nD, ?_⟩⟩
      · rw [List.length_map, List.length_map, List.length_cons, List.length_append, low_len]
        exact le_line (by omega)
      · rw [upd_same, take_snoc eg, writeMany_snoc]
        simp only [List.map_cons, List.map_append, List.cons_append, List.append_assoc]
    · rintro σ H4 ⟨o2, o3, rfl, s4, h4⟩
      rw [List.take_of_length_le (by rw [List.length_map]; omega)] at h4
      exact ⟨_, rfl, q H4 D s4 nD h4⟩
theorem ok_value_out (T : TX K mg) (c_number_out : SB.Cal P w K mg base 1 "number_out" (sp_number_out T)) (c_octets_of : SB.Cal P w K mg base 1 "octets_of" (sp_octets_of T)) (c_text_out : SB.Cal P w K mg base 2 "text_out" (sp_text_out T)) {f : Addr} {fd : FuncData} (F : Fun K "value_out" "value_out" s_value_out f fd) (hm : mg "value_out" = some (.ref f)) (kp : PySem.W.keepIn K (.ref f) = true) (bd : Binds K fd ["value"] []) : ∀ n, FnOk P w K mg base CX0 (n + 6) f fd ["value"] (spl_value_out T n)
  | 0 => ⟨fun _ _ _ _ h => (no0_value_out T h).elim, fun _ _ _ _ _ _ _ _ _ _ _ _ _ h => (no0_value_out T h).elim⟩
  | n + 1 => st_value_out T c_number_out c_octets_of c_text_out F n ⟨f, fd, _, ok_value_out T c_number_out c_octets_of c_text_out F hm kp bd n, hm, kp, bd⟩

end
end SP

/-! ## SP6 -/
set_option maxHeartbeats 4000000
namespace SP
open PySem PySem.Spec PyProof.Rows L2 SB
open SS (VC VG R Sz RateOk treeW ratesOf leadsTo)
open R7244e.Spec (distribution wordProb endState entry stopProbs Walker Stage walkRecord wordRecord walkerNext walkerThrow Outcome yieldNext enumerationNext enumerationThrow collectFrom outcomeList continuableWords wordP readWord)
abbrev Walker := R7244e.Spec.Walker
abbrev Enum := R7244e.Spec.Enumeration
section
variable {K : PySem.W.Frag} {mg : Str → Option Value} (T : TX K mg)
/-! ### walks.py -/
def sp_text_of : Sp := fun vs H Q _ => ∃ (wv : V) (w : List Nat), vs = [wv] ∧ WdAt K H wv w ∧ Let w ∧ w.length ≤ 8 ∧ ∀ H' r, Same H H' → (∀ I b, PlAt T I H' b r (wordP w)) → Q r H'
def isTxt (u : Units) : Plain → Bool
  | .str s => s == u
  | _ => false
def sp_is_text : Sp := fun vs H Q _ => ∃ (v : V) (p : Plain) (I : Addr → Prop) (sg : Addr) (u : Units), vs = [v, .ref sg] ∧ PlAt T I H false v p ∧ SqT K H sg (u.map unitT) ∧ Q (.bl (isTxt u p)) H
/-- the letter that a text is, or -1 -/
def letterP (p : Plain) : Int := if isTxt [97] p then 0 else if isTxt [98] p then 1 else -1
def sp_letter_in : Sp := fun vs H Q _ => ∃ (v : V) (p : Plain) (I : Addr → Prop), vs = [v] ∧ PlAt T I H false v p ∧ ∀ H', Same H H' → Q (.int (letterP p)) H'
/-- a walk, as it lies -/
def WkR (I : Addr → Prop) (H : Hp) (v : V) (a cd : Addr) (R : Ru) (w : List Nat) (st fi : Bool) : Prop := ∃ (dx : Addr) (r wv : V), v = .ref a ∧ H a = some (.ins T.Walk dx [("rule", r), ("word", wv), ("is_started", .bl st), ("is_finished", .bl fi)]) ∧ RuAt T I H r cd R ∧ WdAt K H wv w ∧ w.length ≤ 8 ∧ Let w
def StW (s : Stage (List Nat)) (w : List Nat) (st fi : Bool) : Prop := match s with
  | .notStarted => st = false ∧ fi = false ∧ w = []
  | .running l => st = true ∧ fi = false ∧ w = l.reverse
  | .finished => fi = true
/-- the walk of the specification lies at v -/
def WkAt (I : Addr → Prop) (H : Hp) (v : V) (a cd : Addr) (R : Ru) (h : Walker) : Prop := ∃ (w : List Nat) (st fi : Bool), WkR T I H v a cd R w st fi ∧ StW h.stage w st fi ∧ h.chain = R.t ∧ h.bias = R.g ∧ h.stationary = R.y ∧ h.start = R.p
def Two (a b : Addr) : Addr → Prop := fun x => x = a ∨ x = b
def sp_Walk___init__ : Sp := fun vs H Q _ => ∃ (x dx cd : Addr) (r : V) (R : Ru) (I : Addr → Prop), vs = [.ref x, r] ∧ H x = some (.ins T.Walk dx []) ∧ RuAt T I H r cd R ∧ ∀ H', Chg (· = x) H H' → WkR T I H' (.ref x) x cd R [] false false → Q .non H'
def sp_Walk_is_running : Sp := fun vs H Q _ => ∃ (v : V) (a cd : Addr) (R : Ru) (w : List Nat) (st fi : Bool) (I : Addr → Prop), vs = [v] ∧ WkR T I H v a cd R w st fi ∧ Q (.bl (st && !fi)) H
def sp_Walk_state : Sp := fun vs H Q _ => ∃ (v : V) (a cd : Addr) (R : Ru) (w : List Nat) (st fi : Bool) (I : Addr → Prop), vs = [v] ∧ VR R ∧ WkR T I H v a cd R w st fi ∧ Q (intT (endState R.t R.p w)) H
def sp_Walk_report : Sp := fun vs H Q _ => ∃ (v : V) (a cd : Addr) (R : Ru) (w : List Nat) (st fi : Bool) (I : Addr → Prop), vs = [v] ∧ VR R ∧ WkR T I H v a cd R w st fi ∧
  ∀ H' r, Chg (· = cd) H H' → WkR T I H' v a cd R w st fi → PlAt T (FreshA H H') H' true r (walkRecord R.t R.g R.y R.p w) → Q r H'
def sp_Walk_go_on : Sp := fun vs H Q _ => ∃ (v x : V) (p : Plain) (a cd : Addr) (R : Ru) (h : Walker) (I J : Addr → Prop), vs = [v, x] ∧ VR R ∧ WkAt T I H v a cd R h ∧ PlAt T J H false x p ∧
  ∀ (H' : Hp) (tp : Addr) (o : V) (u : Plain) (f : Bool), Chg (Two a cd) H H' → WkAt T I H' v a cd R (walkerNext h p).1 → SqT K H' tp [o, .bl f] → (walkerNext h p).2 = .step u f → PlAt T (FreshA H H') H' true o u → Q (.ref tp) H'
def sp_Walk_signal : Sp := fun vs H Q _ => ∃ (v x : V) (p : Plain) (a cd : Addr) (R : Ru) (h : Walker) (I J : Addr → Prop), vs = [v, x] ∧ VR R ∧ WkAt T I H v a cd R h ∧ PlAt T J H false x p ∧
  ∀ (H' : Hp) (r : V), Chg (Two a cd) H H' → WkAt T I H' v a cd R (walkerThrow h p).1 → PlAt T (New J H H') H' true r (outcomeList (walkerThrow h p).2) → Q r H'
/-! ### the enumeration -/
def wordsTo : Nat → List (List Nat)
  | 0 => [[]]
  | n + 1 => wordsTo n ++ R7244e.Spec.wordsOfLength (n + 1)
def WdsAt (H : Hp) (rr : Addr) (l : List (List Nat)) : Prop := ∃ ws, H rr = some (.lst ws) ∧ Paired (WdAt K H) ws l
def sp_words_to (T : TX K mg) : Sp := fun vs H Q _ => ∃ n : Nat, vs = [intT n] ∧ n ≤ 4 ∧ ∀ H' rr, Same H H' → H rr = none → WdsAt (K := K) H' rr (wordsTo n) → Q (.ref rr) H'
def EnR (I : Addr → Prop) (H : Hp) (v : V) (a cd rr : Addr) (R : Ru) (rem : List (List Nat)) (many last : Nat) (fi : Bool) : Prop := ∃ (dx : Addr) (r : V), v = .ref a ∧ H a = some (.ins T.Enumeration dx [("rule", r), ("remaining", .ref rr), ("many", intT many), ("last", intT last), ("is_finished", .bl fi)]) ∧ RuAt T I H r cd R ∧
  WdsAt (K := K) H rr rem ∧ ¬ I rr ∧ (∀ w ∈ rem, w.length ≤ 4 ∧ Let w) ∧ rem.length ≤ 31
def StE (s : Stage Unit) (many : Nat) (fi : Bool) : Prop := match s with
  | .notStarted => many = 0 ∧ fi = false
  | .running _ => 0 < many ∧ fi = false
  | .finished => fi = true
def EnAt (I : Addr → Prop) (H : Hp) (v : V) (a cd rr : Addr) (R : Ru) (h : Enum) : Prop := ∃ fi : Bool, EnR T I H v a cd rr R h.remaining h.yielded h.lastLength fi ∧ StE h.stage h.yielded fi ∧ h.chain = R.t ∧ h.bias = R.g ∧ h.start = R.p
def sp_Enumeration___init__ : Sp := fun vs H Q _ => ∃ (x dx cd : Addr) (r : V) (R : Ru) (most : Nat) (I : Addr → Prop), vs = [.ref x, r, intT most] ∧ H x = some (.ins T.Enumeration dx []) ∧ VR R ∧ most ≤ 4 ∧ RuAt T I H r cd R ∧ Al I H ∧
  ∀ H' rr, Chg (Two x cd) H H' → H rr = none → EnR T I H' (.ref x) x cd rr R (continuableWords R.t R.g R.y R.p most) 0 0 false → Q .non H'
def sp_Enumeration_advance : Sp := fun vs H Q _ => ∃ (v : V) (a cd rr : Addr) (R : Ru) (h : Enum) (I : Addr → Prop), vs = [v] ∧ VR R ∧ EnAt T I H v a cd rr R h ∧ h.stage ≠ .finished ∧
  ∀ (H' : Hp) (tp : Addr) (o : V) (u : Plain) (f : Bool), Chg (Two a rr) H H' → EnAt T I H' v a cd rr R (yieldNext h h.remaining).1 → SqT K H' tp [o, .bl f] → (yieldNext h h.remaining).2 = .step u f → PlAt T (FreshA H H') H' true o u → Q (.ref tp) H'
def sp_Enumeration_go_on : Sp := fun vs H Q _ => ∃ (v : V) (a cd rr : Addr) (R : Ru) (h : Enum) (I : Addr → Prop), vs = [v] ∧ VR R ∧ EnAt T I H v a cd rr R h ∧
  ∀ (H' : Hp) (tp : Addr) (o : V) (u : Plain) (f : Bool), Chg (Two a rr) H H' → EnAt T I H' v a cd rr R (enumerationNext h).1 → SqT K H' tp [o, .bl f] → (enumerationNext h).2 = .step u f → PlAt T (FreshA H H') H' true o u → Q (.ref tp) H'
def sp_Enumeration_signal : Sp := fun vs H Q _ => ∃ (v x : V) (p : Plain) (a cd rr : Addr) (R : Ru) (h : Enum) (I J : Addr → Prop), vs = [v, x] ∧ VR R ∧ EnAt T I H v a cd rr R h ∧ Al I H ∧ PlAt T J H false x p ∧ ¬ J rr ∧
  ∀ (H' : Hp) (r : V) (rr' : Addr), Chg (Two a rr) H H' → (rr' = rr ∨ H rr' = none) → EnAt T I H' v a cd rr' R (enumerationThrow h p).1 → (∃ la its l, r = .ref la ∧ H la = none ∧ la ≠ rr' ∧ H' la = some (.lst its) ∧ outcomeList (enumerationThrow h p).2 = .arr l ∧ PlsAt T (fun b => New J H H' b ∧ b ≠ rr') H' true its l) → (∀ b, Two a rr b → H' b ≠ none) → Q r H'
def sp_Enumeration_finish : Sp := fun vs H Q _ => ∃ (v x : V) (a cd rr : Addr) (R : Ru) (h : Enum) (I : Addr → Prop), vs = [v, x] ∧ EnAt T I H v a cd rr R h ∧
  ∀ (H' : Hp) (tp : Addr), Chg (· = a) H H' → EnAt T I H' v a cd rr R { h with stage := .finished } → SqT K H' tp [x, .bl true] → Q (.ref tp) H'
def sp_Enumeration_collect : Sp := fun vs H Q _ => ∃ (v : V) (a cd rr : Addr) (R : Ru) (h : Enum) (I : Addr → Prop), vs = [v] ∧ VR R ∧ EnAt T I H v a cd rr R h ∧ Al I H ∧
  ∀ (H' : Hp) (r : V), Chg (Two a rr) H H' → EnAt T I H' v a cd rr R (collectFrom 40 h).1 → PlAt T (FreshA H H') H' true r (.arr (collectFrom 40 h).2) → Q r H'
end
end SP

/-! ## X1 -/
set_option maxHeartbeats 4000000
namespace SP
open PySem PySem.Spec PyProof.Rows L2 SB
open SS (VC VG R Sz RateOk treeW ratesOf leadsTo)
open R7244e.Spec (reachable recurrentStates hasOneClass canMeet distribution wordProb endState coverage separation unstopped stopProbs survival entry target)
section
variable {P : Program} {w : World} {base : Heap}
variable {K : PySem.W.Frag} {mg : Str → Option Value}

theorem ints_lay : ∀ l : List Int, PyData.canLayAll0 (l.map PyData.int) = true ∧ PyData.depthAll (l.map PyData.int) = 0
  | [] => ⟨rfl, rfl⟩
  | a :: l => by
    obtain ⟨h1, h2⟩ := ints_lay l
    refine ⟨?_, ?_⟩
    · show (PyData.canLay0 (.int a) && PyData.canLayAll0 (l.map PyData.int)) = true
      rw [h1]
      rfl
    · show max (PyData.depth (.int a)) (PyData.depthAll (l.map PyData.int)) = 0
      rw [h2]
      rfl
theorem ints_shaped (l : List Int) : SeqAt.shaped (.tuple (l.map PyData.int)) = true := by
  obtain ⟨h1, h2⟩ := ints_lay l
  unfold SeqAt.shaped
  rw [Bool.and_eq_true]
  refine ⟨h1, decide_eq_true ?_⟩
  show PyData.depthAll (l.map PyData.int) + 1 ≤ 64
  omega
theorem ints_eqv : ∀ l m : List Int, PyData.eqvAll (l.map PyData.int) (m.map PyData.int) = decide (l = m)
  | [], [] => rfl
  | [], _ :: _ => rfl
  | _ :: _, [] => rfl
  | a :: l, b :: m => by
    show (PyData.eqv (.int a) (.int b) && PyData.eqvAll (l.map PyData.int) (m.map PyData.int)) = _
    rw [ints_eqv l m, Bool.eq_iff_iff]
    show ((a == b) && decide (l = m)) = true ↔ _
    simp
def unitI (c : UInt16) : Int := ((c.toNat : Nat) : Int)
theorem unitI_inj : ∀ {u s : Units}, u.map unitI = s.map unitI → u = s
  | [], [], _ => rfl
  | [], _ :: _, h => by cases h
  | _ :: _, [], h => by cases h
  | a :: u, b :: s, h => by
    rw [List.map_cons, List.map_cons] at h
    injection h with h1 h2
    have h1 : a.toNat = b.toNat := by
      unfold unitI at h1
      omega
    rw [unitI_inj h2, UInt16.toNat_inj.mp h1]
theorem dp_units {K : PySem.W.Frag} {H : Hp} {a : Addr} {u : Units} (h : SqT K H a (u.map unitT)) : Dp K H (.ref a) (.tuple ((u.map unitI).map PyData.int)) := by
  refine .tup h ?_
  clear h
  induction u with
  | nil => exact .nil
  | cons c u ih => exact .cons (.int _) ih
theorem offDP {I : Addr → Prop} {H : Hp} {cd : Addr} {kvs : List (Key × V)} (h : H cd = some (.dK kvs)) : OffP (· = cd) I H where
  tup := fun b xs e q => by subst e; rw [h] at q; cases q
  ftup := fun b o u e q => by subst e; rw [h] at q; cases q
  lst := fun b xs e _ q => by subst e; rw [h] at q; cases q
  one := fun a C dx f v e q => by subst e; rw [h] at q; cases q
theorem offIR {T : TX K mg} {I : Addr → Prop} {H : Hp} {x C dx : Addr} {fs : List (Str × V)} (h : H x = some (.ins C dx fs)) (n1 : C ≠ T.Rule) (n2 : C ≠ T.Drawn) : OffR T (· = x) I H :=
  { offI (I := I) h with ins := fun b C2 dx2 fs2 e q => by subst e; rw [h] at q; injection q with q; injection q with q1 q2 q3; subst q1; exact ⟨n1, n2⟩ }
theorem offIP {I : Addr → Prop} {H : Hp} {x C dx : Addr} {fs : List (Str × V)} (h : H x = some (.ins C dx fs)) (n : fs.length ≠ 1) : OffP (· = x) I H :=
  { offI (I := I) h with one := fun a C2 dx2 f v e q => by subst e; rw [h] at q; injection q with q; injection q with q1 q2 q3; subst q3; exact n rfl }
theorem nm_word : ustr "word" = R7244e.Spec.units "word" := by decide +kernel
theorem nm_state : ustr "state" = R7244e.Spec.units "state" := by decide +kernel
theorem nm_probability : ustr "probability" = R7244e.Spec.units "probability" := by decide +kernel
theorem nm_stopProbability : ustr "stopProbability" = R7244e.Spec.units "stopProbability" := by decide +kernel
theorem nm_full : ustr "full" = R7244e.Spec.units "full" := by decide +kernel
theorem nm_result : ustr "result" = R7244e.Spec.units "result" := by decide +kernel
theorem nm_thrown : ustr "thrown" = R7244e.Spec.units "thrown" := by decide +kernel
theorem nm_value : ustr "value" = R7244e.Spec.units "value" := by decide +kernel
theorem nm_done : ustr "done" = R7244e.Spec.units "done" := by decide +kernel
theorem ac_word : asc "word" ∧ ("word" : Str).cps.size ≤ 70000 := by unfold asc; decide +kernel
theorem ac_state : asc "state" ∧ ("state" : Str).cps.size ≤ 70000 := by unfold asc; decide +kernel
theorem ac_probability : asc "probability" ∧ ("probability" : Str).cps.size ≤ 70000 := by unfold asc; decide +kernel
theorem ac_stopProbability : asc "stopProbability" ∧ ("stopProbability" : Str).cps.size ≤ 70000 := by unfold asc; decide +kernel
theorem ac_full : asc "full" := by unfold asc; decide +kernel
theorem ac_result : asc "result" := by unfold asc; decide +kernel
theorem ac_thrown : asc "thrown" := by unfold asc; decide +kernel
theorem ac_value : asc "value" ∧ ("value" : Str).cps.size ≤ 70000 := by unfold asc; decide +kernel
theorem ac_done : asc "done" ∧ ("done" : Str).cps.size ≤ 70000 := by unfold asc; decide +kernel
theorem PlAt.pst {T : TX K mg} {I : Addr → Prop} {H : Hp} {s : Str} {u : Units} (h : asc s) (e : ustr s = u) : PlAt T I H true (.str s) (.str u) := by
  rw [← e]
  exact .pstr s rfl h
theorem PlAt.rat {T : TX K mg} {I : Addr → Prop} {H : Hp} {b : Bool} {a : Addr} {x : Rat} (i : I a) (h : H a = some (.lst [.int x.num, .int (x.den : Nat)])) : PlAt T I H b (.ref a) (R7244e.Spec.ratP x) :=
  .arr i (SqL.of h) (.cons (.num _) (.cons (.num _) .nil))
abbrev s_text_of : Stmt := topS 40
theorem sc_text_of : FnScope ["word", "own"] ["word"] (defScope s_text_of) := SB.sc_by (by decide +kernel)
theorem len_text_of {T : TX K mg} : ∀ vs H Q E, sp_text_of T vs H Q E → vs.length = (["word"] : List Str).length := by
  rintro _ H Q E ⟨_, _, rfl, _⟩
  rfl
theorem ok_text_of (T : TX K mg) (m_Text : SB.Mak P w K mg base 1 "Text" T.Text (sp_Text___init__ T))  {f : Addr} {fd : FuncData} (F : Fun K "text_of" "text_of" s_text_of f fd) : FnOk P w K mg base CX0 3 f fd ["word"] (sp_text_of T) := by
  refine F.ok sc_text_of len_text_of (fun cdv A outer s H vs Q E hr h => ⟨_, (pss_one (ps_ret (SB.mak m_Text hr (by decide) rfl (pa_cons (pe_callTy (SB.kTupOf (K := K) rfl) (by rfl) T.b_tuple (by decide +kernel) (pa_cons (pe_lc (own := [("own", 1)]) (g := (gName 1)) (tt := tYes) (by rfl) sc_text_of.nd (pi_tup (pv 0)) (blkOk_by (own := [("own", 1)]) (N := ["word", "own"]) (sc := (defScope s_text_of)) (by decide +kernel)) (fun _ _ _ _ _ => (pg_name (i := 1) sc_text_of.nd rfl (by first | exact Or.inl rfl | exact Or.inr rfl))) (fun _ _ _ _ _ => pts_nil) (fun _ _ _ _ _ => (pe_ix (SB.kIxT (K := K) rfl) (pe_glob (v := .ref T.LETTERS) rfl T.gLETTERS rfl) (pv 1) (fun _ _ => rfl)))) pa_nil)) pa_nil)))), ?_⟩)
  obtain ⟨wv, w0, rfl, ⟨wa, rfl, hw⟩, hl, h8, q⟩ := h
  refine ⟨_, rfl, wa, rfl, ⟨_, hw⟩, fun D hD => ?_⟩
  refine lc_tup (K := K) (a := wa) (xs := w0.map intT) (fun j H3 => Same H H3 ∧ H3 D = some (.lst ((w0.take j).map fun c => intT (97 + c)))) ⟨same_upd hD, upd_same⟩ (fun j H3 _ ⟨s3, _⟩ => same_tup s3 hw) ?_ ?_
  · rintro j x H3 hx ⟨s3, h3⟩
    obtain ⟨z, hz, rfl⟩ := get_map hx
    have l2 : z < 2 := hl _ (List.mem_of_getElem? hz)
    have e5 : ([V.int 97, V.int 98] : List V)[z]? = some (intT (97 + z)) := by
      match z, l2 with
      | 0, _ => rfl
      | 1, _ => rfl
    refine ⟨rfl, lcYes ⟨_, rfl, T.LETTERS, _, _, _, rfl, rfl, T.hLETTERS H3, atI_nat e5, _, h3, ?_, same_upd2 s3 hD, ?_⟩⟩
    · rw [List.length_map, List.length_take]
      exact lt_line (by omega)
    · rw [upd_same, take_map_succ hz]
  · rintro H3 ⟨s3, h3⟩
    rw [List.length_map, List.take_length] at h3
    refine ⟨D, _, rfl, .inl ⟨SqL.of h3, fun L hL => fun x dx hx hdx nd => ⟨x, dx, .ref L, rfl, upd_same, fun H4 c4 h4 => ⟨rfl, ?_⟩⟩⟩⟩
    have s4 := mk_same hx hdx c4
    have s34 : Same H3 (upd H3 L (.tup (w0.map fun c => intT (97 + c)))) := same_upd hL
    refine q H4 _ (s3.trans (s34.trans s4)) fun I b => .str h4 ?_
    have e : (w0.map fun c => UInt16.ofNat (97 + c)).map unitT = w0.map fun c => intT (97 + c) := by
      rw [List.map_map]
      refine List.map_congr_left fun c hc => ?_
      have := hl c hc
      show intT (UInt16.ofNat (97 + c)).toNat = _
      rw [UInt16.toNat_ofNat', Nat.mod_eq_of_lt (by omega)]
    rw [e]
    exact SqT.of (s4 _ _ upd_same)
abbrev s_is_text : Stmt := topS 41
theorem sc_is_text : FnScope ["value", "signs"] ["value", "signs"] (defScope s_is_text) := SB.sc_by (by decide +kernel)
theorem len_is_text {T : TX K mg} : ∀ vs H Q E, sp_is_text T vs H Q E → vs.length = (["value", "signs"] : List Str).length := by
  rintro _ H Q E ⟨_, _, _, _, _, rfl, _⟩
  rfl
theorem ok_is_text (T : TX K mg)   {f : Addr} {fd : FuncData} (F : Fun K "is_text" "is_text" s_is_text f fd) : FnOk P w K mg base CX0 1 f fd ["value", "signs"] (sp_is_text T) := by
  refine F.ok sc_is_text len_is_text (fun cdv A outer s H vs Q E hr h => ⟨_, (pss_one (ps_ret (pe_and (pe_callB (SB.kIsi (K := K) rfl) (by rfl) T.b_isinstance (by decide +kernel) (pa_cons (pv 0) (pa_cons (pe_glob (v := .ref T.Text) rfl T.gText rfl) pa_nil))) (pe_one (pe_cmpR (SB.kEqD (K := K) rfl hr.units) (SB.kFld (K := K) rfl (pv 0) rfl) (pv 1) (nomark _)))))), ?_⟩)
  obtain ⟨v, p, I, sg, u, rfl, hp, hs, q⟩ := h
  obtain ⟨t, ty, ek⟩ := isi_Text hp
  refine ⟨_, rfl, v, .ref T.Text, t, .ref T.Text, _, rfl, .own _, ty, ek, _, rfl, ?_⟩
  cases hp with
  | @str a dx e u2 h hq =>
    refine iteT ⟨_, rfl, a, T.Text, _, _, _, rfl, h, T.clText, T.nText_octets, lkText_octets, _, rfl, _, _, dp_units hq, dp_units hs, ints_shaped _, ints_shaped _, ?_⟩
    have e1 : PyData.eqv (.tuple ((u2.map unitI).map PyData.int)) (.tuple ((u.map unitI).map PyData.int)) = isTxt u (.str u2) := by
      show PyData.eqvAll _ _ = (u2 == u)
      rw [ints_eqv, Bool.eq_iff_iff, decide_eq_true_eq, beq_iff_eq]
      exact ⟨unitI_inj, fun z => by rw [z]⟩
    rw [e1]
    exact q
  | pstr s z c => cases z
  | undef h => exact q
  | null => exact q
  | bool x => exact q
  | num i => exact q
  | arr i hq l => exact q
  | obj h i hq l => exact q
abbrev s_letter_in : Stmt := topS 42
theorem sc_letter_in : FnScope ["value", "letter", "sign"] ["value"] (defScope s_letter_in) := SB.sc_by (by decide +kernel)
theorem len_letter_in {T : TX K mg} : ∀ vs H Q E, sp_letter_in T vs H Q E → vs.length = (["value"] : List Str).length := by
  rintro _ H Q E ⟨_, _, _, rfl, _⟩
  rfl
theorem ok_letter_in (T : TX K mg) (c_is_text : SB.Cal P w K mg base 1 "is_text" (sp_is_text T))  {f : Addr} {fd : FuncData} (F : Fun K "letter_in" "letter_in" s_letter_in f fd) : FnOk P w K mg base CX0 2 f fd ["value"] (sp_letter_in T) := by
  refine F.ok sc_letter_in len_letter_in (fun cdv A outer s H vs Q E hr h => ⟨_, (pss_cons (ps_for (by first | exact PassesOwn.never | exact passes_of rfl) rfl (SB.pi_enumT (by rfl) T.b_enumerate (pa_cons (pe_glob (v := .ref T.LETTERS) rfl T.gLETTERS rfl) pa_nil)) (pg_tup (by rfl) (pgs_cons (pg_name (i := 1) sc_letter_in.nd rfl (by first | exact Or.inl rfl | exact Or.inr rfl)) (pgs_cons (pg_name (i := 2) sc_letter_in.nd rfl (by first | exact Or.inl rfl | exact Or.inr rfl)) pgs_nil))) (pss_one (ps_if (pt_val (SB.cal c_is_text hr (by decide) rfl (pa_cons (pv 0) (pa_cons (pe_tup (pa_cons (pv 2) pa_nil)) pa_nil)))) (pss_one (ps_ret (pv 1))) pss_nil))) (pss_one (ps_ret (pe_un un_neg pe_int)))), ?_⟩)
  obtain ⟨v, p, I, rfl, hp, q⟩ := h
  refine ⟨T.LETTERS, _, rfl, T.hLETTERS H, ?_⟩
  refine for_it (walk_enumT (K := K) (a := T.LETTERS) (xs := [.int 97, .int 98])) (fun j σ H' => ∃ o1 o2 : Option V, σ = [some v, o1, o2] ∧ Same H H' ∧ (∀ i, i < j → isTxt [UInt16.ofNat (97 + i)] p = false)) ⟨none, none, rfl, Same.refl H, fun i h => by omega⟩ (fun j σ H' _ _ => T.hLETTERS H') ?_ ?_
  · rintro j x σ H3 H4 hj ⟨o1, o2, rfl, s3, ht⟩ ⟨Tp, x1, y1, rfl, hT, rfl, e1, e2⟩
    cases e1
    have hj : j < 2 := hj
    have e2 : ([V.int 97, V.int 98] : List V)[j]? = some y1 := e2
    have ey : y1 = intT (97 + j) := by
      match j, hj, e2 with
      | 0, _, e2 => exact (Option.some.inj e2).symm
      | 1, _, e2 => exact (Option.some.inj e2).symm
    subst ey
    have s4 := same_upd2 (o := .tup [intT j, intT (97 + j)]) s3 (s3.free hT)
    have hTp : upd H3 Tp (.tup [intT j, intT (97 + j)]) Tp = some (.tup [intT j, intT (97 + j)]) := upd_same
    generalize upd H3 Tp (.tup [intT j, intT (97 + j)]) = H5 at s4 hTp ⊢
    refine ⟨Tp, _, rfl, SqT.of hTp, rfl, _, _, rfl, _, _, rfl, rfl, _, rfl, _, rfl, le_line (by show 1 ≤ _; decide), fun P hP => ?_⟩
    have s6 := same_upd2 (o := .tup [intT (97 + j)]) s4 (s4.free hP)
    refine ⟨v, p, I, P, [UInt16.ofNat (97 + j)], rfl, hp.same s6, ?_, _, rfl, ?_⟩
    · have e : ([UInt16.ofNat (97 + j)] : Units).map unitT = [intT (97 + j)] := by
        show [intT (UInt16.ofNat (97 + j)).toNat] = _
        rw [UInt16.toNat_ofNat', Nat.mod_eq_of_lt (by omega)]
      rw [e]
      exact SqT.of upd_same
    · refine ite2 (fun c => ?_) (fun c => ?_)
      · have q := q _ s6
        have e : letterP p = (j : Nat) := by
          unfold letterP
          match j, hj, ht, c with
          | 0, _, ht, c => rw [show (UInt16.ofNat (97 + 0)) = 97 from rfl] at c; rw [if_pos c]; rfl
          | 1, _, ht, c =>
            have h0 := ht 0 (by omega)
            rw [show (UInt16.ofNat (97 + 0)) = 97 from rfl] at h0
            rw [show (UInt16.ofNat (97 + 1)) = 98 from rfl] at c
            rw [if_neg (by rw [h0]; decide), if_pos c]
            rfl
        rw [e] at q
        exact ⟨_, rfl, q⟩
      · refine ⟨some (intT j), some (intT (97 + j)), rfl, s6, fun i hi => ?_⟩
        by_cases e : i = j
        · subst e
          simpa using c
        · exact ht i (by omega)
  · rintro σ H3 ⟨o1, o2, rfl, s3, ht⟩
    have h0 := ht 0 (by decide)
    have h1 := ht 1 (by decide)
    have q := q H3 s3
    unfold letterP at q
    rw [show (UInt16.ofNat (97 + 0)) = 97 from rfl] at h0
    rw [show (UInt16.ofNat (97 + 1)) = 98 from rfl] at h1
    rw [h0, h1] at q
    exact ⟨_, rfl, q⟩
abbrev s_Walk___init__ : Stmt := inClass (topS 43) 0
theorem sc_Walk___init__ : FnScope ["self", "rule"] ["self", "rule"] (defScope s_Walk___init__) := SB.sc_by (by decide +kernel)
theorem len_Walk___init__ {T : TX K mg} : ∀ vs H Q E, sp_Walk___init__ T vs H Q E → vs.length = (["self", "rule"] : List Str).length := by
  rintro _ H Q E ⟨_, _, _, _, _, _, rfl, _⟩
  rfl
theorem ok_Walk___init__ (T : TX K mg)   {f : Addr} {fd : FuncData} (F : Fun K "__init__" "Walk.__init__" s_Walk___init__ f fd) : FnOk P w K mg base CX0 1 f fd ["self", "rule"] (sp_Walk___init__ T) := by
  refine F.ok sc_Walk___init__ len_Walk___init__ (fun cdv A outer s H vs Q E hr h => ⟨_, (pss_cons (ps_fld (pv 0) (pv 1) rfl) (pss_cons (ps_fld (pv 0) (pe_tup pa_nil) rfl) (pss_cons (ps_fld (pv 0) pe_bl rfl) (pss_one (ps_fld (pv 0) pe_bl rfl))))), ?_⟩)
  obtain ⟨x, dx, cd, r, R, I, rfl, hx, hR, q⟩ := h
  refine ⟨_, rfl, _, rfl, x, T.Walk, dx, [], rfl, hx, T.clWalk, T.nWalk_rule, by decide, ?_⟩
  rw [pnWalk_rule]
  refine ⟨le_line (by show 0 ≤ _; decide), fun E hE => ⟨_, rfl, x, T.Walk, dx, _, rfl, upd_keep upd_same hE, T.clWalk, T.nWalk_word, (show 1 < 1000 by decide), ?_⟩⟩
  rw [pnWalk_word]
  refine ⟨_, rfl, x, T.Walk, dx, _, rfl, upd_same, T.clWalk, T.nWalk_is_started, (show 2 < 1000 by decide), ?_⟩
  rw [pnWalk_is_started]
  refine ⟨_, rfl, x, T.Walk, dx, _, rfl, upd_same, T.clWalk, T.nWalk_is_finished, (show 3 < 1000 by decide), ?_⟩
  rw [pnWalk_is_finished]
  have nE : E ≠ x := fun z => by subst z; rw [upd_same] at hE; cases hE
  have c := chg_upd (M := (· = x)) (o := .ins T.Walk dx [("rule", r), ("word", .ref E), ("is_started", .bl false), ("is_finished", .bl false)]) (chg_upd (o := .ins T.Walk dx [("rule", r), ("word", .ref E), ("is_started", .bl false)]) (chg_upd (o := .ins T.Walk dx [("rule", r), ("word", .ref E)]) (chg_upd (o := .tup []) (chg_upd (o := .ins T.Walk dx [("rule", r)]) (Chg.refl H) (.inr rfl)) (.inl (free_upd hE))) (.inr rfl)) (.inr rfl)) (.inr rfl)
  have ncd : cd ≠ x := fun z => by
    obtain ⟨kvs, hc⟩ := hR.cd
    rw [z, hx] at hc
    cases hc
  refine q _ c ⟨dx, r, .ref E, rfl, upd_same, hR.off (offIR hx T.neWR T.neWD) ncd c, ⟨E, rfl, SqT.of ?_⟩, Nat.zero_le _, fun c hc => by cases hc⟩
  rw [upd_ne nE, upd_ne nE, upd_ne nE, upd_same]
  rfl
abbrev s_Walk_is_running : Stmt := inClass (topS 43) 1
theorem sc_Walk_is_running : FnScope ["self"] ["self"] (defScope s_Walk_is_running) := SB.sc_by (by decide +kernel)
theorem len_Walk_is_running {T : TX K mg} : ∀ vs H Q E, sp_Walk_is_running T vs H Q E → vs.length = (["self"] : List Str).length := by
  rintro _ H Q E ⟨_, _, _, _, _, _, _, _, rfl, _⟩
  rfl
theorem ok_Walk_is_running (T : TX K mg)   {f : Addr} {fd : FuncData} (F : Fun K "is_running" "Walk.is_running" s_Walk_is_running f fd) : FnOk P w K mg base CX0 1 f fd ["self"] (sp_Walk_is_running T) := by
  refine F.ok sc_Walk_is_running len_Walk_is_running (fun cdv A outer s H vs Q E hr h => ⟨_, (pss_one (ps_ret (pe_and (SB.kFld (K := K) rfl (pv 0) rfl) (pe_one (pe_not (SB.kFld (K := K) rfl (pv 0) rfl)))))), ?_⟩)
  obtain ⟨v, a, cd, R, w0, st, fi, I, rfl, ⟨dx, r, wv, rfl, ha, hR, hw, l8, lt⟩, q⟩ := h
  refine ⟨_, rfl, a, T.Walk, _, _, _, rfl, ha, T.clWalk, T.nWalk_is_started, lkWalk_is_started, st, rfl, ?_⟩
  cases st with
  | true => exact iteT ⟨_, rfl, a, T.Walk, _, _, _, rfl, ha, T.clWalk, T.nWalk_is_finished, lkWalk_is_finished, fi, rfl, q⟩
  | false => exact iteF q
abbrev s_Walk_state : Stmt := inClass (topS 43) 2
theorem sc_Walk_state : FnScope ["self"] ["self"] (defScope s_Walk_state) := SB.sc_by (by decide +kernel)
theorem len_Walk_state {T : TX K mg} : ∀ vs H Q E, sp_Walk_state T vs H Q E → vs.length = (["self"] : List Str).length := by
  rintro _ H Q E ⟨_, _, _, _, _, _, _, _, rfl, _⟩
  rfl
theorem ok_Walk_state (T : TX K mg) (m_Drawn_state_behind : SB.Met P w K mg base 1 T.Drawn "state_behind" (sp_Drawn_state_behind T))  {f : Addr} {fd : FuncData} (F : Fun K "state" "Walk.state" s_Walk_state f fd) : FnOk P w K mg base CX0 2 f fd ["self"] (sp_Walk_state T) := by
  refine F.ok sc_Walk_state len_Walk_state (fun cdv A outer s H vs Q E hr h => ⟨_, (pss_one (ps_ret (SB.met m_Drawn_state_behind hr (by decide) (SB.kFld (K := K) rfl (SB.kFld (K := K) rfl (pv 0) rfl) rfl) (pa_cons (SB.kFld (K := K) rfl (SB.kFld (K := K) rfl (pv 0) rfl) rfl) (pa_cons (SB.kFld (K := K) rfl (pv 0) rfl) pa_nil))))), ?_⟩)
  obtain ⟨v, a, cd, R, w0, st, fi, I, rfl, vr, ⟨dx, r, wv, rfl, ha, hR, hw, l8, lt⟩, q⟩ := h
  obtain ⟨ra, _, _, _, _, rfl, _⟩ := id hR
  obtain ⟨rdx, d, rs, kvs, hra, hd, hrs, hc⟩ := hR.open
  obtain ⟨da, ddx, dc, dws, rfl, hda, _⟩ := id hd
  exact ⟨_, rfl, a, T.Walk, _, _, _, rfl, ha, T.clWalk, T.nWalk_rule, lkWalk_rule, ra, T.Rule, _, _, _, rfl, hra, T.clRule, T.nRule_drawn, lkRule_drawn, da, _, _, rfl, hda, noDrawn_state_behind, _, rfl, a, T.Walk, _, _, _, rfl, ha, T.clWalk, T.nWalk_rule, lkWalk_rule, ra, T.Rule, _, _, _, rfl, hra, T.clRule, T.nRule_start, lkRule_start, _, rfl, a, T.Walk, _, _, _, rfl, ha, T.clWalk, T.nWalk_word, lkWalk_word, .ref da, wv, R.t, R.g, R.p, w0, rfl, vr.v, hd.any, vr.p, hw, l8, lt, q⟩

end
end SP

/-! ## X2 -/
set_option maxHeartbeats 4000000
namespace SP
open PySem PySem.Spec PyProof.Rows L2 SB
open SS (VC VG R Sz RateOk treeW ratesOf leadsTo)
open R7244e.Spec (reachable recurrentStates hasOneClass canMeet distribution wordProb endState coverage separation unstopped stopProbs survival entry target)
section
variable {P : Program} {w : World} {base : Heap}
variable {K : PySem.W.Frag} {mg : Str → Option Value}

open R7244e.Spec (wordP readWord Stage walkRecord wordRecord walkerNext walkerThrow Outcome yieldNext enumerationNext enumerationThrow collectFrom outcomeList continuableWords)
/-- a + b of tuples: some tuple -/
def rCatB (K : PySem.W.Frag) : R2 := fun x y H Q => ∃ a b xs ys, x = .ref a ∧ y = .ref b ∧ SqT K H a xs ∧ SqT K H b ys ∧ xs.length + ys.length ≤ sizeLine ∧ ∀ (p : Addr) (H' : Hp), Same H H' → SqT K H' p (xs ++ ys) → Q (.ref p) H'
theorem kCatB {X : Cx} {K : PySem.W.Frag} (hK : X.K = K) : OpR X (binaryOp .Add) (rCatB K) := by
  intro pins s σ H x y v u Q I rx ry h
  obtain ⟨a, b, xs, ys, e1, e2, ha, hb, hl, q⟩ := h
  refine SB.kCatA hK pins s σ H x y v u Q I rx ry ⟨a, b, xs, ys, e1, e2, ha, hb, hl, fun z => ?_, fun _ z => ?_, fun _ _ p hp => ?_⟩
  · subst z
    exact q b H (Same.refl H) hb
  · subst z
    exact q a H (Same.refl H) (by rw [List.append_nil]; exact ha)
  · exact q p _ (same_upd hp) (SqT.of upd_same)
/-- a slice of a tuple: some tuple -/
def rSlB (K : PySem.W.Frag) : V → Option Int → Option Int → Hp → VK → Prop := fun x lo hi H Q => ∃ a xs, x = .ref a ∧ SqT K H a xs ∧ ∀ (p : Addr) (H' : Hp), Same H H' → SqT K H' p (cutV xs lo hi) → Q (.ref p) H'
theorem kSlB {X : Cx} {K : PySem.W.Frag} (hK : X.K = K) : SlR X (rSlB K) := by
  intro pins s σ H x v vl vu lo hi sl Q I rx hs pl pu h
  obtain ⟨a, xs, e1, ha, q⟩ := h
  refine SB.kSlA hK pins s σ H x v vl vu lo hi sl Q I rx hs pl pu ⟨a, xs, e1, ha, fun z => ?_, fun _ p hp => q p _ (same_upd hp) (SqT.of upd_same)⟩
  refine q a H (Same.refl H) ?_
  have e : cutV xs lo hi = xs := by
    unfold cutV
    rw [z.1, z.2, List.drop_zero, Nat.sub_zero, List.take_length]
  rw [e]
  exact ha
theorem fresh_chg {H H1 H2 : Hp} {cd b : Addr} {o : HO} (c : Chg (· = cd) H H1) (h : H1 cd = some o) (n : H1 b = none) : H b = none := chg_free c h n
theorem WkR.same {T : TX K mg} {I : Addr → Prop} {H H' : Hp} {v : V} {a cd : Addr} {R : Ru} {w : List Nat} {st fi : Bool} (s : Same H H') (h : WkR T I H v a cd R w st fi) : WkR T I H' v a cd R w st fi := by
  obtain ⟨dx, r, wv, e, ha, hR, hw, l8, lt⟩ := h
  exact ⟨dx, r, wv, e, s _ _ ha, hR.same s, hw.same s, l8, lt⟩
/-- the names of a record, as they are laid -/
theorem names4 {a b c d : Str} : [a, b, c, d].map V.str = [V.str a, V.str b, V.str c, V.str d] := rfl
abbrev s_Walk_report : Stmt := inClass (topS 43) 3
theorem sc_Walk_report : FnScope ["self", "probability", "row"] ["self"] (defScope s_Walk_report) := SB.sc_by (by decide +kernel)
theorem len_Walk_report {T : TX K mg} : ∀ vs H Q E, sp_Walk_report T vs H Q E → vs.length = (["self"] : List Str).length := by
  rintro _ H Q E ⟨_, _, _, _, _, _, _, _, rfl, _⟩
  rfl
theorem ok_Walk_report (T : TX K mg) (c_record : SB.Cal P w K mg base 3 "record" (sp_record T)) (c_text_of : SB.Cal P w K mg base 3 "text_of" (sp_text_of T)) (m_Drawn_probability_of : SB.Met P w K mg base 3 T.Drawn "probability_of" (sp_Drawn_probability_of T)) (m_Rule_stop_at : SB.Met P w K mg base 7 T.Rule "stop_at" (sp_Rule_stop_at T)) (m_Walk_state : SB.Met P w K mg base 2 T.Walk "state" (sp_Walk_state T))  {f : Addr} {fd : FuncData} (F : Fun K "report" "Walk.report" s_Walk_report f fd) : FnOk P w K mg base CX0 8 f fd ["self"] (sp_Walk_report T) := by
  refine F.ok sc_Walk_report len_Walk_report (fun cdv A outer s H vs Q E hr h => ⟨_, (pss_cons (ps_set (i := 1) sc_Walk_report.nd rfl (by first | exact Or.inl rfl | exact Or.inr rfl) (pe_callTy (SB.kListOf (K := K) rfl) (by rfl) T.b_list (by decide +kernel) (pa_cons (SB.met m_Drawn_probability_of hr (by decide) (SB.kFld (K := K) rfl (SB.kFld (K := K) rfl (pv 0) rfl) rfl) (pa_cons (SB.kFld (K := K) rfl (pv 0) rfl) pa_nil)) pa_nil))) (pss_cons (ps_set (i := 2) sc_Walk_report.nd rfl (by first | exact Or.inl rfl | exact Or.inr rfl) (pe_lst (pa_cons (SB.cal c_text_of hr (by decide) rfl (pa_cons (SB.kFld (K := K) rfl (pv 0) rfl) pa_nil)) (pa_cons (SB.met0 m_Walk_state hr (by decide) (pv 0)) (pa_cons (pv 1) (pa_cons (pe_callTy (SB.kListOf (K := K) rfl) (by rfl) T.b_list (by decide +kernel) (pa_cons (SB.met m_Rule_stop_at hr (by decide) (SB.kFld (K := K) rfl (pv 0) rfl) (pa_cons (SB.kFld (K := K) rfl (pv 0) rfl) pa_nil)) pa_nil)) pa_nil)))))) (pss_one (ps_ret (SB.cal c_record hr (by decide) rfl (pa_cons (pe_lst (pa_cons pe_str (pa_cons pe_str (pa_cons pe_str (pa_cons pe_str pa_nil))))) (pa_cons (pv 2) pa_nil))))))), ?_⟩)
  obtain ⟨v, a, cd, R, w0, st, fi, I, rfl, vr, hW, q⟩ := h
  obtain ⟨dx, r, wv, rfl, ha, hR, hw, l8, lt⟩ := id hW
  obtain ⟨ra, _, _, _, _, rfl, _⟩ := id hR
  obtain ⟨rdx, d, rs, kvs, hra, hd, hrs, hc⟩ := hR.open
  obtain ⟨da, ddx, dc, dws, rfl, hda, _⟩ := id hd
  refine ⟨_, rfl, a, T.Walk, _, _, _, rfl, ha, T.clWalk, T.nWalk_rule, lkWalk_rule, ra, T.Rule, _, _, _, rfl, hra, T.clRule, T.nRule_drawn, lkRule_drawn, da, _, _, rfl, hda, noDrawn_probability_of, _, rfl, a, T.Walk, _, _, _, rfl, ha, T.clWalk, T.nWalk_word, lkWalk_word, .ref da, wv, R.t, R.g, w0, rfl, vr.v, vr.g, hd.any, hw, l8, lt, fun H1 pr s1 f1 => ?_⟩
  obtain ⟨pa, rfl, hpa⟩ := f1
  refine ⟨pa, _, rfl, .inr hpa, fun P1 hP1 => ?_⟩
  have sP := same_upd2 (o := .lst [.int (wordProb R.g w0).num, .int ((wordProb R.g w0).den : Nat)]) s1 (s1.free hP1)
  have nP1 := s1.free hP1
  have hP1l : upd H1 P1 (.lst [.int (wordProb R.g w0).num, .int ((wordProb R.g w0).den : Nat)]) P1 = some (.lst [.int (wordProb R.g w0).num, .int ((wordProb R.g w0).den : Nat)]) := upd_same
  generalize upd H1 P1 (.lst [.int (wordProb R.g w0).num, .int ((wordProb R.g w0).den : Nat)]) = H2 at sP hP1l ⊢
  refine ⟨_, rfl, a, T.Walk, _, _, _, rfl, (sP _ _ ha), T.clWalk, T.nWalk_word, lkWalk_word, wv, w0, rfl, hw.same sP, lt, l8, fun H3 tx s3 ptx => ?_⟩
  have s03 := sP.trans s3
  have ha3 := s03 _ _ ha
  have hra3 := s03 _ _ hra
  refine ⟨_, rfl, a, _, _, rfl, ha3, noWalk_state, .ref a, a, cd, R, w0, st, fi, I, rfl, vr, hW.same s03, _, rfl, _, rfl, a, T.Walk, _, _, _, rfl, ha3, T.clWalk, T.nWalk_rule, lkWalk_rule, ra, _, _, rfl, hra3, noRule_stop_at, _, rfl, a, T.Walk, _, _, _, rfl, ha3, T.clWalk, T.nWalk_word, lkWalk_word, .ref ra, wv, cd, R, w0, I, rfl, vr, hw.same s03, l8, lt, hR.same s03, fun H4 sv c4 r4 f4 => ?_⟩
  obtain ⟨sa, rfl, hsa⟩ := f4
  refine ⟨sa, _, rfl, .inr hsa, fun P2 hP2 => ⟨le_line (by show 4 ≤ _; decide), fun L hL => ⟨le_line (by show 4 ≤ _; decide), fun N hN => ?_⟩⟩⟩
  obtain ⟨kvs4, hc4⟩ := r4.cd
  have hc3 := s03 _ _ hc
  have n3 : ∀ {b}, H4 b = none → H b = none := fun n => s03.free (chg_free c4 hc4 n)
  have hP13 := s3 _ _ hP1l
  have nPc : P1 ≠ cd := fun z => by rw [z, hc3] at hP13; cases hP13
  have hP14 := c4 _ _ hP13 nPc
  generalize eq5 : upd H4 P2 (.lst _) = H5 at hL hN ⊢
  have s45 : Same H4 H5 := by rw [← eq5]; exact same_upd hP2
  have h5P : H5 P2 = some (.lst [.int (entry (stopProbs R.t R.g R.y R.p w0.length) (endState R.t R.p w0)).num, .int ((entry (stopProbs R.t R.g R.y R.p w0.length) (endState R.t R.p w0)).den : Nat)]) := by rw [← eq5]; exact upd_same
  generalize eq6 : upd H5 L (.lst _) = H6 at hN ⊢
  have s56 : Same H5 H6 := by rw [← eq6]; exact same_upd hL
  have h6L : H6 L = some (.lst [tx, intT (endState R.t R.p w0), .ref P1, .ref P2]) := by rw [← eq6]; exact upd_same
  generalize eq7 : upd H6 N (.lst _) = H7
  have s67 : Same H6 H7 := by rw [← eq7]; exact same_upd hN
  have h7N : H7 N = some (.lst (([("word" : Str), "state", "probability", "stopProbability"]).map V.str)) := by rw [← eq7]; exact upd_same
  have s47 := s45.trans (s56.trans s67)
  have c37 : Chg (· = cd) H3 H7 := c4.trans (Chg.of_same s47)
  have c07 : Chg (· = cd) H H7 := (Chg.of_same s03).trans c37
  have h7c := s47 _ _ hc4
  have f7 : ∀ {b}, H7 b = none → H b = none := fun n => chg_free c07 h7c n
  have i1 : FreshA H H7 P1 := ⟨nP1, by rw [s47 _ _ hP14]; simp⟩
  have i2 : FreshA H H7 P2 := ⟨n3 hP2, by rw [s67 _ _ (s56 _ _ h5P)]; simp⟩
  refine ⟨_, rfl, N, L, [("word" : Str), "state", "probability", "stopProbability"], [tx, intT (endState R.t R.p w0), .ref P1, .ref P2], [wordP w0, R7244e.Spec.nat (endState R.t R.p w0), R7244e.Spec.ratP (wordProb R.g w0), R7244e.Spec.ratP (entry (stopProbs R.t R.g R.y R.p w0.length) (endState R.t R.p w0))], FreshA H H7, rfl, SqL.of h7N, SqL.of (s67 _ _ h6L), ?_, fun b hb => hb.2, rfl, (show 4 ≤ 100 by decide), ?_, fun H8 r8 s8 p8 => ?_⟩
  · exact .cons (((ptx (FreshA H H7) true).off (offDP hc3) c37)) (.cons (.num _) (.cons (PlAt.rat i1 (s47 _ _ hP14)) (.cons (PlAt.rat i2 (s67 _ _ (s56 _ _ h5P))) .nil)))
  · intro s hs
    simp only [List.mem_cons, List.not_mem_nil, or_false] at hs
    rcases hs with h | h | h | h <;> subst h
    · exact ac_word
    · exact ac_state
    · exact ac_probability
    · exact ac_stopProbability
  · have c08 := c07.trans (Chg.of_same s8)
    refine q H8 r8 c08 ⟨dx, .ref ra, wv, rfl, c08 _ _ ha (fun z => by rw [z, hc] at ha; cases ha), r4.same (s47.trans s8), hR.wd c08 hw, l8, lt⟩ ?_
    have e : R7244e.Spec.Plain.obj ((([("word" : Str), "state", "probability", "stopProbability"]).map ustr).zip [wordP w0, R7244e.Spec.nat (endState R.t R.p w0), R7244e.Spec.ratP (wordProb R.g w0), R7244e.Spec.ratP (entry (stopProbs R.t R.g R.y R.p w0.length) (endState R.t R.p w0))]) = R7244e.Spec.walkRecord R.t R.g R.y R.p w0 := by
      simp only [List.map_cons, List.map_nil, nm_word, nm_state, nm_probability, nm_stopProbability]
      rfl
    rw [← e]
    refine p8.mono fun b hb => ?_
    rcases hb with hb | hb
    · exact ⟨hb.1, fun z => hb.2 (s8.free z)⟩
    · exact ⟨f7 hb.1, hb.2⟩
theorem letter_read (p : Plain) : (match readWord p with | some [c] => ((c : Nat) : Int) | _ => -1) = letterP p := by
  cases p with
  | str u =>
    match u with
    | [] => rfl
    | [c] =>
      have h97 : (c == 97) = decide (c.toNat = 97) := by
        rw [Bool.eq_iff_iff, beq_iff_eq, decide_eq_true_eq, ← UInt16.toNat_inj]
        rfl
      have h98 : (c == 98) = decide (c.toNat = 98) := by
        rw [Bool.eq_iff_iff, beq_iff_eq, decide_eq_true_eq, ← UInt16.toNat_inj]
        rfl
      have t1 : isTxt [97] (.str [c]) = decide (c.toNat = 97) := by
        show (([c] : Units) == [97]) = _
        rw [← h97]
        simp
      have t2 : isTxt [98] (.str [c]) = decide (c.toNat = 98) := by
        show (([c] : Units) == [98]) = _
        rw [← h98]
        simp
      unfold letterP
      rw [t1, t2]
      have r1 : readWord (.str [c]) = (match R7244e.Spec.letterOfUnit c with | some a => some [a] | none => none) := by
        show (match R7244e.Spec.letterOfUnit c, R7244e.Spec.lettersOfUnits [] with | some a, some l => some (a :: l) | _, _ => none) = _
        cases R7244e.Spec.letterOfUnit c <;> rfl
      rw [r1]
      have r2 : R7244e.Spec.letterOfUnit c = if 97 ≤ c.toNat ∧ c.toNat ≤ 98 then some (c.toNat - 97) else none := rfl
      rw [r2]
      by_cases h : 97 ≤ c.toNat ∧ c.toNat ≤ 98
      · rw [if_pos h]
        have : c.toNat = 97 ∨ c.toNat = 98 := by omega
        rcases this with e | e
        · rw [e]; rfl
        · rw [e]; rfl
      · rw [if_neg h, decide_eq_false (by omega), decide_eq_false (by omega)]
        rfl
    | a :: b :: r =>
      have t1 : isTxt [97] (.str (a :: b :: r)) = false := by
        show ((a :: b :: r : Units) == [97]) = _
        simp
      have t2 : isTxt [98] (.str (a :: b :: r)) = false := by
        show ((a :: b :: r : Units) == [98]) = _
        simp
      unfold letterP
      rw [t1, t2]
      have this : ∀ x, readWord (.str (a :: b :: r)) ≠ some [x] := by
        intro x h
        have h : R7244e.Spec.lettersOfUnits (a :: b :: r) = some [x] := h
        unfold R7244e.Spec.lettersOfUnits at h
        split at h
        · rename_i e1 e2
          unfold R7244e.Spec.lettersOfUnits at e2
          split at e2
          · cases e2; cases h
          · cases e2
        · cases h
      match h : readWord (.str (a :: b :: r)) with
      | none => rfl
      | some [] => rfl
      | some [c] => exact absurd h (this c)
      | some (x :: y :: z) => rfl
  | undef => rfl
  | null => rfl
  | bool x => rfl
  | num i => rfl
  | arr i => rfl
  | obj h => rfl
  | big => rfl
theorem letter_lt {p : Plain} {c : Nat} (h : readWord p = some [c]) : c < 2 ∧ letterP p = (c : Nat) := by
  have e := letter_read p
  rw [h] at e
  simp only at e
  refine ⟨?_, e.symm⟩
  unfold letterP at e
  split at e
  · omega
  · split at e <;> omega
theorem StW.fin {s : Stage (List Nat)} {w : List Nat} {st : Bool} (h : StW s w st true) : s = .finished := by
  cases s with
  | notStarted => cases h.2.1
  | running l => cases h.2.1
  | finished => rfl
theorem StW.new {s : Stage (List Nat)} {w : List Nat} (h : StW s w false false) : s = .notStarted ∧ w = [] := by
  cases s with
  | notStarted => exact ⟨rfl, h.2.2⟩
  | running l => cases h.1
  | finished => cases h
theorem StW.run {s : Stage (List Nat)} {w : List Nat} (h : StW s w true false) : ∃ l, s = .running l ∧ w = l.reverse := by
  cases s with
  | notStarted => cases h.1
  | running l => exact ⟨l, rfl, h.2.2⟩
  | finished => cases h
/-- a walk whose instance was written -/
theorem WkR.put {T : TX K mg} {I : Addr → Prop} {H H' : Hp} {a cd dx : Addr} {r wv : V} {R : Ru} {w : List Nat} {st fi : Bool} {fs : List (Str × V)} (ha : H a = some (.ins T.Walk dx fs)) (nf : fs.length ≠ 1) (hR : RuAt T I H r cd R) (hw : WdAt K H wv w) (l8 : w.length ≤ 8) (lt : Let w)
    (c : Chg (· = a) H H') (h' : H' a = some (.ins T.Walk dx [("rule", r), ("word", wv), ("is_started", .bl st), ("is_finished", .bl fi)])) : WkR T I H' (.ref a) a cd R w st fi := by
  obtain ⟨kvs, hc⟩ := hR.cd
  have ne : cd ≠ a := fun z => by rw [z, ha] at hc; cases hc
  exact ⟨dx, r, wv, rfl, h', hR.off (offIR ha T.neWR T.neWD) ne c, hw.off (I := Any) (offI ha) c, l8, lt⟩
theorem next_stay {hh : Walker} {l : List Nat} {p : Plain} (es : hh.stage = .running l) (hn : ∀ c, readWord p ≠ some [c]) : walkerNext hh p = R7244e.Spec.yieldWalker hh l := by
  unfold walkerNext
  rw [es]
  show (match readWord p with
    | some [c] => if R7244e.Spec.maxWalkLength ≤ l.length then ({ hh with stage := .finished }, Outcome.step (R7244e.Spec.text "full") true) else R7244e.Spec.yieldWalker hh (c :: l)
    | _ => R7244e.Spec.yieldWalker hh l) = _
  match h : readWord p with
  | none => rfl
  | some [] => rfl
  | some [c] => exact absurd h (hn c)
  | some (a :: b :: r) => rfl
theorem next_one {hh : Walker} {l : List Nat} {p : Plain} {c : Nat} (es : hh.stage = .running l) (ec : readWord p = some [c]) : walkerNext hh p = if R7244e.Spec.maxWalkLength ≤ l.length then ({ hh with stage := .finished }, Outcome.step (R7244e.Spec.text "full") true) else R7244e.Spec.yieldWalker hh (c :: l) := by
  unfold walkerNext
  rw [es]
  show (match readWord p with
    | some [c] => if R7244e.Spec.maxWalkLength ≤ l.length then ({ hh with stage := .finished }, Outcome.step (R7244e.Spec.text "full") true) else R7244e.Spec.yieldWalker hh (c :: l)
    | _ => R7244e.Spec.yieldWalker hh l) = _
  rw [ec]
abbrev s_Walk_go_on : Stmt := inClass (topS 43) 4
theorem sc_Walk_go_on : FnScope ["self", "value", "letter"] ["self", "value"] (defScope s_Walk_go_on) := SB.sc_by (by decide +kernel)
theorem len_Walk_go_on {T : TX K mg} : ∀ vs H Q E, sp_Walk_go_on T vs H Q E → vs.length = (["self", "value"] : List Str).length := by
  rintro _ H Q E ⟨_, _, _, _, _, _, _, _, _, rfl, _⟩
  rfl
theorem ok_Walk_go_on (T : TX K mg) (c_letter_in : SB.Cal P w K mg base 2 "letter_in" (sp_letter_in T)) (m_Nothing : SB.Mak P w K mg base 1 "Nothing" T.Nothing (sp_Nothing___init__ T)) (m_Walk_report : SB.Met P w K mg base 8 T.Walk "report" (sp_Walk_report T))  {f : Addr} {fd : FuncData} (F : Fun K "go_on" "Walk.go_on" s_Walk_go_on f fd) : FnOk P w K mg base CX0 9 f fd ["self", "value"] (sp_Walk_go_on T) := by
  refine F.ok sc_Walk_go_on len_Walk_go_on (fun cdv A outer s H vs Q E hr h => ⟨_, (pss_cons (ps_if (pt_val (SB.kFld (K := K) rfl (pv 0) rfl)) (pss_one (ps_ret (pe_tup (pa_cons (SB.mak0 m_Nothing hr (by decide) rfl) (pa_cons pe_bl pa_nil))))) pss_nil) (pss_cons (ps_set (i := 2) sc_Walk_go_on.nd rfl (by first | exact Or.inl rfl | exact Or.inr rfl) (SB.cal c_letter_in hr (by decide) rfl (pa_cons (pv 1) pa_nil))) (pss_cons (ps_if (PW.pt (pw_and (pt_val (SB.kFld (K := K) rfl (pv 0) rfl)) (pw_and1 (pt_cmpR op_ge (pv 2) pe_int (nomark _))))) (pss_cons (ps_if (pt_cmpR op_eq (pe_callB (SB.kLen (K := K) rfl) (by rfl) T.b_len PySem.boot_len (pa_cons (SB.kFld (K := K) rfl (pv 0) rfl) pa_nil)) (pe_glob (v := .int 8) rfl T.gMOST_LETTERS ⟨_, rfl⟩) (nomark _)) (pss_cons (ps_fld (pv 0) pe_bl rfl) (pss_one (ps_ret (pe_tup (pa_cons pe_str (pa_cons pe_bl pa_nil)))))) pss_nil) (pss_one (ps_fld (pv 0) (pe_op (kCatB (K := K) rfl) (SB.kFld (K := K) rfl (pv 0) rfl) (pe_tup (pa_cons (pv 2) pa_nil))) rfl))) pss_nil) (pss_cons (ps_fld (pv 0) pe_bl rfl) (pss_one (ps_ret (pe_tup (pa_cons (SB.met0 m_Walk_report hr (by decide) (pv 0)) (pa_cons pe_bl pa_nil))))))))), ?_⟩)
  obtain ⟨v, x, p, a, cd, R, hh, I, J, rfl, vr, ⟨w0, st, fi, hW, hst, e1, e2, e3, e4⟩, hp, q⟩ := h
  obtain ⟨dx, r, wv, rfl, ha, hR, hw, l8, lt⟩ := id hW
  obtain ⟨kvs, hc⟩ := hR.cd
  have nac : a ≠ cd := fun z => by rw [z, hc] at ha; cases ha
  refine ⟨_, rfl, a, T.Walk, _, _, _, rfl, ha, T.clWalk, T.nWalk_is_finished, lkWalk_is_finished, fi, rfl, ?_⟩
  cases fi with
  | true =>
    have es := hst.fin
    have eN : walkerNext hh p = (hh, .step .undef true) := by unfold walkerNext; rw [es]
    rw [eN] at q
    refine iteT fun x dx2 hx hdx nd => ⟨x, dx2, rfl, upd_same, fun H2 e c2 h2 => ⟨rfl, le_line (by show 2 ≤ _; decide), fun P hP => ?_⟩⟩
    have s2 := (mk_same hx hdx c2)
    have s3 := same_upd2 (o := .tup [.ref x, .bl true]) s2 (s2.free hP)
    exact q _ P (.ref x) .undef true (Chg.of_same s3) ⟨w0, st, true, hW.same s3, hst, e1, e2, e3, e4⟩ (SqT.of upd_same) rfl (.undef (upd_keep h2 hP))
  | false =>
  refine iteF ⟨_, rfl, x, p, J, rfl, hp, fun H1 s1 => ?_⟩
  have ha1 := s1 _ _ ha
  have hR1 := hR.same s1
  have hw1 := hw.same s1
  -- the end: the walk stands with a word, and reports
  have fin : ∀ (H3 H5 : Hp) (rv : V) (P : Addr) (l' : List Nat), Chg (Two a cd) H H3 → walkerNext hh p = ({ hh with stage := .running l' }, .step (walkRecord R.t R.g R.y R.p l'.reverse) false) → Chg (· = cd) H3 H5 → WkR T I H5 (.ref a) a cd R l'.reverse true false → (∀ b, H3 b = none → H b = none) →
      PlAt T (FreshA H3 H5) H5 true rv (walkRecord R.t R.g R.y R.p l'.reverse) → H5 P = none → Q (.ref P) (upd H5 P (.tup [rv, .bl false])) := by
    intro H3 H5 rv P l' c03 eN c35 W5 n3 p5 hP
    rw [eN] at q
    have s6 := same_upd (o := .tup [rv, .bl false]) hP
    refine q _ P rv _ false ((c03.trans (c35.mono fun b h => .inr h)).trans (Chg.of_same s6)) ⟨l'.reverse, true, false, W5.same s6, ⟨rfl, rfl, rfl⟩, e1, e2, e3, e4⟩ (SqT.of upd_same) rfl ((p5.same s6).mono fun b hb => ⟨n3 b hb.1, fun z => hb.2 (free_upd z)⟩)
  have n1 : ∀ b, H1 b = none → H b = none := fun b => s1.free
  have c1 : Chg (Two a cd) H H1 := Chg.of_same s1
  have toA : ∀ {Hx Hy : Hp}, Chg (· = a) Hx Hy → Chg (Two a cd) Hx Hy := fun c => c.mono fun b h => .inl h
  have nU : ∀ {Hx : Hp} {o : HO} (b : Addr), upd Hx a o b = none → Hx b = none := fun b h => free_upd h
  refine ⟨_, rfl, a, T.Walk, _, _, _, rfl, ha1, T.clWalk, T.nWalk_is_started, lkWalk_is_started, st, rfl, ?_⟩
  cases st with
  | false =>
    obtain ⟨es, rfl⟩ := hst.new
    refine iteF (iteF ⟨_, rfl, a, T.Walk, dx, _, rfl, ha1, T.clWalk, T.nWalk_is_started, (show 4 < 1000 by decide), ?_⟩)
    rw [pfWalk_is_started]
    have h3 : upd H1 a (.ins T.Walk dx [("rule", r), ("word", wv), ("is_started", .bl true), ("is_finished", .bl false)]) a = some (.ins T.Walk dx [("rule", r), ("word", wv), ("is_started", .bl true), ("is_finished", .bl false)]) := upd_same
    have c3 : Chg (· = a) H1 (upd H1 a (.ins T.Walk dx [("rule", r), ("word", wv), ("is_started", .bl true), ("is_finished", .bl false)])) := chg1
    have n3 := fun b h => n1 b (nU (o := .ins T.Walk dx [("rule", r), ("word", wv), ("is_started", .bl true), ("is_finished", .bl false)]) b h)
    generalize upd H1 a (.ins T.Walk dx [("rule", r), ("word", wv), ("is_started", .bl true), ("is_finished", .bl false)]) = H3 at h3 c3 n3 ⊢
    refine ⟨_, rfl, a, _, _, rfl, h3, noWalk_report, .ref a, a, cd, R, [], true, false, I, rfl, vr, WkR.put ha1 (show 4 ≠ 1 by decide) hR1 hw1 l8 lt c3 h3, fun H5 rv c5 W5 p5 => ⟨le_line (by show 2 ≤ _; decide), fun P hP => ?_⟩⟩
    refine fin H3 H5 rv P [] (c1.trans (toA c3)) ?_ c5 W5 n3 p5 hP
    unfold walkerNext
    rw [es]
    unfold R7244e.Spec.yieldWalker
    rw [e1, e2, e3, e4]
  | true =>
    obtain ⟨l, es, rfl⟩ := hst.run
    have stay : (∀ c, readWord p ≠ some [c]) → walkerNext hh p = ({ hh with stage := .running l }, .step (walkRecord R.t R.g R.y R.p l.reverse) false) := by
      intro hn
      rw [next_stay es hn]
      unfold R7244e.Spec.yieldWalker
      rw [e1, e2, e3, e4]
    refine iteT ⟨_, rfl, _, _, rfl, rfl, _, rfl, ?_⟩
    refine ite2 (fun c9 => ?_) (fun c9 => ?_)
    · have c9 : 0 ≤ letterP p := of_decide_eq_true c9
      obtain ⟨c, ec⟩ : ∃ c, readWord p = some [c] := by
        have e := letter_read p
        match h : readWord p with
        | none => rw [h] at e; simp only at e; omega
        | some [] => rw [h] at e; simp only at e; omega
        | some [c] => exact ⟨c, rfl⟩
        | some (a :: b :: r) => rw [h] at e; simp only at e; omega
      obtain ⟨c2, el⟩ := letter_lt ec
      obtain ⟨wa, rfl, hwa⟩ := id hw1
      rw [List.length_reverse] at l8
      have ewl : (((l.reverse.map intT).length : Nat) : Int) = ((l.length : Nat) : Int) := by rw [List.length_map, List.length_reverse]
      refine ⟨_, rfl, a, T.Walk, _, _, _, rfl, ha1, T.clWalk, T.nWalk_word, lkWalk_word, wa, _, rfl, .inr hwa, rfl, _, rfl, ?_⟩
      have et : decide (V.int (((l.reverse.map intT).length : Nat) : Int) = V.int 8) = decide (l.length = 8) := by
        rw [ewl, decide_eq_decide]
        constructor
        · intro z
          injection z with z
          omega
        · intro z
          rw [z]
          rfl
      refine ite2 (fun c8 => ?_) (fun c8 => ?_)
      · have c8 : l.length = 8 := of_decide_eq_true (et ▸ c8)
        have eN : walkerNext hh p = ({ hh with stage := .finished }, .step (R7244e.Spec.text "full") true) := by
          rw [next_one es ec]
          rw [if_pos (by unfold R7244e.Spec.maxWalkLength; omega)]
        rw [eN] at q
        refine ⟨_, rfl, a, T.Walk, dx, _, rfl, ha1, T.clWalk, T.nWalk_is_finished, (show 4 < 1000 by decide), ?_⟩
        rw [pfWalk_is_finished]
        refine ⟨le_line (by show 2 ≤ _; decide), fun P hP => ?_⟩
        have c3 : Chg (· = a) H1 (upd H1 a (.ins T.Walk dx [("rule", r), ("word", .ref wa), ("is_started", .bl true), ("is_finished", .bl true)])) := chg1
        have W3 : WkR T I (upd H1 a (.ins T.Walk dx [("rule", r), ("word", .ref wa), ("is_started", .bl true), ("is_finished", .bl true)])) (.ref a) a cd R l.reverse true true := WkR.put ha1 (show 4 ≠ 1 by decide) hR1 hw1 (by rw [List.length_reverse]; exact l8) lt c3 upd_same
        have s6 := same_upd (o := .tup [.str "full", .bl true]) hP
        exact q _ P _ _ true ((c1.trans (toA c3)).trans (Chg.of_same s6)) ⟨l.reverse, true, true, W3.same s6, rfl, e1, e2, e3, e4⟩ (SqT.of upd_same) rfl (PlAt.pst ac_full nm_full)
      · have c8 : ¬ l.length = 8 := fun z => c8 (et ▸ decide_eq_true z)
        have eN : walkerNext hh p = ({ hh with stage := .running (c :: l) }, .step (walkRecord R.t R.g R.y R.p (c :: l).reverse) false) := by
          rw [next_one es ec]
          rw [if_neg (by unfold R7244e.Spec.maxWalkLength; omega)]
          unfold R7244e.Spec.yieldWalker
          rw [e1, e2, e3, e4]
        refine ⟨_, rfl, a, T.Walk, _, _, _, rfl, ha1, T.clWalk, T.nWalk_word, lkWalk_word, _, rfl, le_line (by show 1 ≤ _; decide), fun P1 hP1 => ⟨wa, P1, _, _, rfl, rfl, same_tup (same_upd hP1) hwa, SqT.of upd_same, ?_, fun P2 H2 s2 hP2 => ?_⟩⟩
        · rw [List.length_map, List.length_reverse]
          exact le_line (by show _ + 1 ≤ _; omega)
        have s12 : Same H1 H2 := (same_upd hP1).trans s2
        have ha2 := s12 _ _ ha1
        have hwd : WdAt K H2 (.ref P2) (c :: l).reverse := by
          refine ⟨P2, rfl, ?_⟩
          rw [List.reverse_cons, List.map_append]
          have e : ([intT c] : List V) = [V.int (letterP p)] := by rw [el]
          show SqT K H2 P2 (l.reverse.map intT ++ [intT c])
          rw [e]
          exact hP2
        have lt2 : Let (c :: l).reverse := by
          intro d hd
          rw [List.mem_reverse, List.mem_cons] at hd
          rcases hd with rfl | hd
          · exact c2
          · exact lt d (List.mem_reverse.mpr hd)
        have l82 : (c :: l).reverse.length ≤ 8 := by rw [List.length_reverse, List.length_cons]; omega
        refine ⟨_, rfl, a, T.Walk, dx, _, rfl, ha2, T.clWalk, T.nWalk_word, (show 4 < 1000 by decide), ?_⟩
        rw [pfWalk_word]
        refine ⟨_, rfl, a, T.Walk, dx, _, rfl, upd_same, T.clWalk, T.nWalk_is_started, (show 4 < 1000 by decide), ?_⟩
        rw [pfWalk_is_started]
        have c3 : Chg (· = a) H2 (upd (upd H2 a (.ins T.Walk dx [("rule", r), ("word", .ref P2), ("is_started", .bl true), ("is_finished", .bl false)])) a (.ins T.Walk dx [("rule", r), ("word", .ref P2), ("is_started", .bl true), ("is_finished", .bl false)])) := chg_upd chg1 (.inr rfl)
        have h3 : upd (upd H2 a (.ins T.Walk dx [("rule", r), ("word", .ref P2), ("is_started", .bl true), ("is_finished", .bl false)])) a (.ins T.Walk dx [("rule", r), ("word", .ref P2), ("is_started", .bl true), ("is_finished", .bl false)]) a = some (.ins T.Walk dx [("rule", r), ("word", .ref P2), ("is_started", .bl true), ("is_finished", .bl false)]) := upd_same
        have n3 : ∀ b, upd (upd H2 a (.ins T.Walk dx [("rule", r), ("word", .ref P2), ("is_started", .bl true), ("is_finished", .bl false)])) a (.ins T.Walk dx [("rule", r), ("word", .ref P2), ("is_started", .bl true), ("is_finished", .bl false)]) b = none → H b = none := fun b h => n1 b (s12.free (free_upd (free_upd h)))
        generalize upd (upd H2 a (.ins T.Walk dx [("rule", r), ("word", .ref P2), ("is_started", .bl true), ("is_finished", .bl false)])) a (.ins T.Walk dx [("rule", r), ("word", .ref P2), ("is_started", .bl true), ("is_finished", .bl false)]) = H3 at h3 c3 n3 ⊢
        refine ⟨_, rfl, a, _, _, rfl, h3, noWalk_report, .ref a, a, cd, R, (c :: l).reverse, true, false, I, rfl, vr, WkR.put ha2 (show 4 ≠ 1 by decide) (hR1.same s12) hwd l82 lt2 c3 h3, fun H5 rv c5 W5 p5 => ⟨le_line (by show 2 ≤ _; decide), fun P hP => ?_⟩⟩
        exact fin H3 H5 rv P (c :: l) ((c1.trans (Chg.of_same s12)).trans (toA c3)) eN c5 W5 n3 p5 hP
    · have c9 : ¬ 0 ≤ letterP p := fun z => c9 (decide_eq_true z)
      have hn : ∀ c, readWord p ≠ some [c] := by
        intro c ec
        obtain ⟨_, el⟩ := letter_lt ec
        omega
      refine ⟨_, rfl, a, T.Walk, dx, _, rfl, ha1, T.clWalk, T.nWalk_is_started, (show 4 < 1000 by decide), ?_⟩
      rw [pfWalk_is_started]
      have h3 : upd H1 a (.ins T.Walk dx [("rule", r), ("word", wv), ("is_started", .bl true), ("is_finished", .bl false)]) a = some (.ins T.Walk dx [("rule", r), ("word", wv), ("is_started", .bl true), ("is_finished", .bl false)]) := upd_same
      have c3 : Chg (· = a) H1 (upd H1 a (.ins T.Walk dx [("rule", r), ("word", wv), ("is_started", .bl true), ("is_finished", .bl false)])) := chg1
      have n3 := fun b h => n1 b (nU (o := .ins T.Walk dx [("rule", r), ("word", wv), ("is_started", .bl true), ("is_finished", .bl false)]) b h)
      generalize upd H1 a (.ins T.Walk dx [("rule", r), ("word", wv), ("is_started", .bl true), ("is_finished", .bl false)]) = H3 at h3 c3 n3 ⊢
      refine ⟨_, rfl, a, _, _, rfl, h3, noWalk_report, .ref a, a, cd, R, l.reverse, true, false, I, rfl, vr, WkR.put ha1 (show 4 ≠ 1 by decide) hR1 hw1 l8 lt c3 h3, fun H5 rv c5 W5 p5 => ⟨le_line (by show 2 ≤ _; decide), fun P hP => ?_⟩⟩
      exact fin H3 H5 rv P l (c1.trans (toA c3)) (stay hn) c5 W5 n3 p5 hP

end
end SP

/-! ## X3 -/
set_option maxHeartbeats 4000000
namespace SP
open PySem PySem.Spec PyProof.Rows L2 SB
open SS (VC VG R Sz RateOk treeW ratesOf leadsTo)
open R7244e.Spec (reachable recurrentStates hasOneClass canMeet distribution wordProb endState coverage separation unstopped stopProbs survival entry target)
section
variable {P : Program} {w : World} {base : Heap}
variable {K : PySem.W.Frag} {mg : Str → Option Value}

open R7244e.Spec (wordP readWord Stage walkRecord wordRecord walkerNext walkerThrow Outcome yieldNext enumerationNext enumerationThrow collectFrom outcomeList continuableWords wordsOfLength)
theorem un_stop : R7244e.Spec.units "stop" = [115, 116, 111, 112] := by decide +kernel
theorem un_undo : R7244e.Spec.units "undo" = [117, 110, 100, 111] := by decide +kernel
theorem is_stop (p : Plain) : R7244e.Spec.isStop p = isTxt [115, 116, 111, 112] p := by
  cases p <;> first | rfl | (unfold R7244e.Spec.isStop; simp only [un_stop]; rfl)
theorem is_undo (p : Plain) : R7244e.Spec.isUndo p = isTxt [117, 110, 100, 111] p := by
  cases p <;> first | rfl | (unfold R7244e.Spec.isUndo; simp only [un_undo]; rfl)
theorem cut_last (xs : List V) (h : xs ≠ []) : cutV xs none (some (-1)) = xs.dropLast := by
  have hl : 0 < xs.length := List.length_pos_iff.mpr h
  have e : HT.sIx xs.length xs.length (some (-1)) = xs.length - 1 := by
    show (if (-1 : Int) < 0 then ((-1 : Int) + ((xs.length : Nat) : Int)).toNat else min (-1 : Int).toNat xs.length) = _
    rw [if_pos (by decide)]
    omega
  unfold cutV
  rw [e, HT.sIx_none, List.drop_zero, Nat.sub_zero, List.dropLast_eq_take]
theorem throw_not {hh : Walker} {p : Plain} (h : ∀ l, hh.stage ≠ .running l) : walkerThrow hh p = ({ hh with stage := .finished }, .thrown p) := by
  unfold walkerThrow
  cases e : hh.stage with
  | notStarted => rfl
  | running l => exact absurd e (h l)
  | finished => rfl
theorem throw_run {hh : Walker} {p : Plain} {l : List Nat} (e : hh.stage = .running l) : walkerThrow hh p = if R7244e.Spec.isStop p = true then ({ hh with stage := .finished }, .step (R7244e.Spec.nat (endState hh.chain hh.start l.reverse)) true) else match l with
    | _ :: l => if R7244e.Spec.isUndo p = true then R7244e.Spec.yieldWalker hh l else ({ hh with stage := .finished }, .thrown p)
    | [] => ({ hh with stage := .finished }, .thrown p) := by
  unfold walkerThrow
  rw [e]
  cases l <;> rfl
abbrev s_Walk_signal : Stmt := inClass (topS 43) 5
theorem sc_Walk_signal : FnScope ["self", "value"] ["self", "value"] (defScope s_Walk_signal) := SB.sc_by (by decide +kernel)
theorem len_Walk_signal {T : TX K mg} : ∀ vs H Q E, sp_Walk_signal T vs H Q E → vs.length = (["self", "value"] : List Str).length := by
  rintro _ H Q E ⟨_, _, _, _, _, _, _, _, _, rfl, _⟩
  rfl
theorem ok_Walk_signal (T : TX K mg) (c_is_text : SB.Cal P w K mg base 1 "is_text" (sp_is_text T)) (m_Walk_is_running : SB.Met P w K mg base 1 T.Walk "is_running" (sp_Walk_is_running T)) (m_Walk_report : SB.Met P w K mg base 8 T.Walk "report" (sp_Walk_report T)) (m_Walk_state : SB.Met P w K mg base 2 T.Walk "state" (sp_Walk_state T))  {f : Addr} {fd : FuncData} (F : Fun K "signal" "Walk.signal" s_Walk_signal f fd) : FnOk P w K mg base CX0 9 f fd ["self", "value"] (sp_Walk_signal T) := by
  refine F.ok sc_Walk_signal len_Walk_signal (fun cdv A outer s H vs Q E hr h => ⟨_, (pss_cons (ps_if (PW.pt (pw_and (pt_val (SB.met0 m_Walk_is_running hr (by decide) (pv 0))) (pw_and1 (pt_val (SB.cal c_is_text hr (by decide) rfl (pa_cons (pv 1) (pa_cons (pe_tup (pa_cons pe_int (pa_cons pe_int (pa_cons pe_int (pa_cons pe_int pa_nil))))) pa_nil))))))) (pss_cons (ps_fld (pv 0) pe_bl rfl) (pss_one (ps_ret (pe_lst (pa_cons pe_str (pa_cons (SB.met0 m_Walk_state hr (by decide) (pv 0)) (pa_cons pe_bl pa_nil))))))) pss_nil) (pss_cons (ps_if (PW.pt (pw_and (pt_val (SB.met0 m_Walk_is_running hr (by decide) (pv 0))) (pw_and (pt_val (SB.cal c_is_text hr (by decide) rfl (pa_cons (pv 1) (pa_cons (pe_tup (pa_cons pe_int (pa_cons pe_int (pa_cons pe_int (pa_cons pe_int pa_nil))))) pa_nil)))) (pw_and1 (pt_cmpR op_gt (pe_callB (SB.kLen (K := K) rfl) (by rfl) T.b_len PySem.boot_len (pa_cons (SB.kFld (K := K) rfl (pv 0) rfl) pa_nil)) pe_int (nomark _)))))) (pss_cons (ps_fld (pv 0) (pe_slice (kSlB (K := K) rfl) (SB.kFld (K := K) rfl (pv 0) rfl) po_none (po_some (pe_un un_neg pe_int))) rfl) (pss_one (ps_ret (pe_lst (pa_cons pe_str (pa_cons (SB.met0 m_Walk_report hr (by decide) (pv 0)) (pa_cons pe_bl pa_nil))))))) pss_nil) (pss_cons (ps_fld (pv 0) pe_bl rfl) (pss_one (ps_ret (pe_lst (pa_cons pe_str (pa_cons (pv 1) pa_nil)))))))), ?_⟩)
  obtain ⟨v, x, p, a, cd, R, hh, I, J, rfl, vr, ⟨w0, st, fi, hW, hst, e1, e2, e3, e4⟩, hp, q⟩ := h
  obtain ⟨dx, r, wv, rfl, ha, hR, hw, l8, lt⟩ := id hW
  obtain ⟨kvs, hc⟩ := hR.cd
  have toA : ∀ {Hx Hy : Hp}, Chg (· = a) Hx Hy → Chg (Two a cd) Hx Hy := fun c => c.mono fun b h => .inl h
  -- the end: it is told back
  have thr : ∀ (Hk : Hp) (L : Addr), Same H Hk → walkerThrow hh p = ({ hh with stage := .finished }, .thrown p) → upd Hk a (.ins T.Walk dx [("rule", r), ("word", wv), ("is_started", .bl st), ("is_finished", .bl true)]) L = none → Q (.ref L) (upd (upd Hk a (.ins T.Walk dx [("rule", r), ("word", wv), ("is_started", .bl st), ("is_finished", .bl true)])) L (.lst [.str "thrown", x])) := by
    intro Hk L sk eN hL
    rw [eN] at q
    have hak := sk _ _ ha
    have c3 : Chg (· = a) Hk (upd Hk a (.ins T.Walk dx [("rule", r), ("word", wv), ("is_started", .bl st), ("is_finished", .bl true)])) := chg1
    have W3 : WkR T I (upd Hk a (.ins T.Walk dx [("rule", r), ("word", wv), ("is_started", .bl st), ("is_finished", .bl true)])) (.ref a) a cd R w0 st true := WkR.put hak (show 4 ≠ 1 by decide) (hR.same sk) (hw.same sk) l8 lt c3 upd_same
    have s6 := same_upd (o := .lst [.str "thrown", x]) hL
    refine q _ _ (((Chg.of_same sk).trans (toA c3)).trans (Chg.of_same s6)) ⟨w0, st, true, W3.same s6, rfl, e1, e2, e3, e4⟩ (.arr (.inr ⟨sk.free (free_upd hL), by rw [upd_same]; simp⟩) (SqL.of upd_same) (.cons (PlAt.pst ac_thrown nm_thrown) (.cons ?_ .nil)))
    have h1 := ((hp.same sk).off (offIP hak (show 4 ≠ 1 by decide)) c3).same s6
    exact h1.keep (keeps_same (Same.refl _) fun b hb => .inl hb) (fun _ => rfl)
  refine ⟨_, rfl, a, _, _, rfl, ha, noWalk_is_running, .ref a, a, cd, R, w0, st, fi, I, rfl, hW, _, rfl, ?_⟩
  by_cases hrun : st = true ∧ fi = false
  · obtain ⟨rfl, rfl⟩ := hrun
    obtain ⟨l, es, rfl⟩ := hst.run
    refine iteT ⟨_, rfl, le_line (by show 4 ≤ _; decide), fun P1 hP1 => ?_⟩
    have s1 : Same H (upd H P1 (.tup [.int 115, .int 116, .int 111, .int 112])) := same_upd hP1
    refine ⟨x, p, J, P1, [115, 116, 111, 112], rfl, hp.same s1, SqT.of upd_same, _, rfl, ?_⟩
    generalize upd H P1 (.tup [.int 115, .int 116, .int 111, .int 112]) = H1 at s1 ⊢
    have ha1 := s1 _ _ ha
    have eN := throw_run (p := p) es
    rw [is_stop] at eN
    refine ite2 (fun c1 => ?_) (fun c1 => ?_)
    · rw [if_pos c1] at eN
      rw [eN] at q
      refine ⟨_, rfl, a, T.Walk, dx, _, rfl, ha1, T.clWalk, T.nWalk_is_finished, (show 4 < 1000 by decide), ?_⟩
      rw [pfWalk_is_finished]
      have c3 : Chg (· = a) H1 (upd H1 a (.ins T.Walk dx [("rule", r), ("word", wv), ("is_started", .bl true), ("is_finished", .bl true)])) := chg1
      have h3 : upd H1 a (.ins T.Walk dx [("rule", r), ("word", wv), ("is_started", .bl true), ("is_finished", .bl true)]) a = some (.ins T.Walk dx [("rule", r), ("word", wv), ("is_started", .bl true), ("is_finished", .bl true)]) := upd_same
      have n3 : ∀ b, upd H1 a (.ins T.Walk dx [("rule", r), ("word", wv), ("is_started", .bl true), ("is_finished", .bl true)]) b = none → H b = none := fun b h => s1.free (free_upd h)
      generalize upd H1 a (.ins T.Walk dx [("rule", r), ("word", wv), ("is_started", .bl true), ("is_finished", .bl true)]) = H3 at h3 c3 n3 ⊢
      have W3 : WkR T I H3 (.ref a) a cd R l.reverse true true := WkR.put ha1 (show 4 ≠ 1 by decide) (hR.same s1) (hw.same s1) l8 lt c3 h3
      refine ⟨_, rfl, a, _, _, rfl, h3, noWalk_state, .ref a, a, cd, R, l.reverse, true, true, I, rfl, vr, W3, le_line (by show 3 ≤ _; decide), fun L hL => ?_⟩
      have s6 := same_upd (o := .lst [.str "result", intT (endState R.t R.p l.reverse), .bl true]) hL
      refine q _ _ (((Chg.of_same s1).trans (toA c3)).trans (Chg.of_same s6)) ⟨l.reverse, true, true, W3.same s6, rfl, e1, e2, e3, e4⟩ (.arr (.inr ⟨n3 _ hL, by rw [upd_same]; simp⟩) (SqL.of upd_same) (.cons (PlAt.pst ac_result nm_result) (.cons ?_ (.cons (.bool true) .nil))))
      rw [e1, e4]
      exact .num _
    · rw [if_neg c1] at eN
      refine ⟨_, rfl, a, _, _, rfl, ha1, noWalk_is_running, .ref a, a, cd, R, l.reverse, true, false, I, rfl, hW.same s1, _, rfl, iteT ⟨_, rfl, le_line (by show 4 ≤ _; decide), fun P2 hP2 => ?_⟩⟩
      have s2 : Same H (upd H1 P2 (.tup [.int 117, .int 110, .int 100, .int 111])) := same_upd2 s1 (s1.free hP2)
      refine ⟨x, p, J, P2, [117, 110, 100, 111], rfl, hp.same s2, SqT.of upd_same, _, rfl, ?_⟩
      generalize upd H1 P2 (.tup [.int 117, .int 110, .int 100, .int 111]) = H2 at s2 ⊢
      have ha2 := s2 _ _ ha
      have hw2 := hw.same s2
      refine ite2 (fun c2 => ?_) (fun c2 => ?_)
      · obtain ⟨wa, rfl, hwa⟩ := id hw2
        refine ⟨_, rfl, a, T.Walk, _, _, _, rfl, ha2, T.clWalk, T.nWalk_word, lkWalk_word, wa, _, rfl, .inr hwa, _, _, rfl, rfl, _, rfl, ?_⟩
        have ewl : (((l.reverse.map intT).length : Nat) : Int) = ((l.length : Nat) : Int) := by rw [List.length_map, List.length_reverse]
        refine ite2 (fun c3 => ?_) (fun c3 => ?_)
        · have c3 : (0 : Int) < (((l.reverse.map intT).length : Nat) : Int) := of_decide_eq_true c3
          rw [ewl] at c3
          match l, es, eN, hwa, l8, lt, c3, hW, thr, q with
          | [], _, _, _, _, _, c3, _, _, _ => exact absurd c3 (by decide)
          | c :: l', es, eN, hwa, l8, lt, c3, hW, thr, q =>
          simp only at eN
          rw [is_undo, if_pos c2] at eN
          unfold R7244e.Spec.yieldWalker at eN
          rw [e1, e2, e3, e4] at eN
          rw [eN] at q
          refine ⟨_, rfl, a, T.Walk, _, _, _, rfl, ha2, T.clWalk, T.nWalk_word, lkWalk_word, _, rfl, _, rfl, wa, _, rfl, hwa, fun P3 H3 s3 hP3 => ⟨_, rfl, a, T.Walk, dx, _, rfl, s3 _ _ ha2, T.clWalk, T.nWalk_word, (show 4 < 1000 by decide), ?_⟩⟩
          rw [pfWalk_word]
          have s03 := s2.trans s3
          have ne : ((c :: l').reverse.map intT) ≠ [] := by simp
          rw [cut_last _ ne] at hP3
          have ed : ((c :: l').reverse.map intT).dropLast = l'.reverse.map intT := by
            rw [List.reverse_cons, List.map_append]
            exact List.dropLast_concat
          rw [ed] at hP3
          have lt2 : Let l'.reverse := fun d hd => lt d (by rw [List.mem_reverse] at hd ⊢; exact List.mem_cons_of_mem _ hd)
          have l82 : l'.reverse.length ≤ 8 := by
            rw [List.length_reverse, List.length_cons] at l8
            rw [List.length_reverse]
            omega
          have c4 : Chg (· = a) H3 (upd H3 a (.ins T.Walk dx [("rule", r), ("word", .ref P3), ("is_started", .bl true), ("is_finished", .bl false)])) := chg1
          have h4 : upd H3 a (.ins T.Walk dx [("rule", r), ("word", .ref P3), ("is_started", .bl true), ("is_finished", .bl false)]) a = some (.ins T.Walk dx [("rule", r), ("word", .ref P3), ("is_started", .bl true), ("is_finished", .bl false)]) := upd_same
          have n4 : ∀ b, upd H3 a (.ins T.Walk dx [("rule", r), ("word", .ref P3), ("is_started", .bl true), ("is_finished", .bl false)]) b = none → H b = none := fun b h => s03.free (free_upd h)
          generalize upd H3 a (.ins T.Walk dx [("rule", r), ("word", .ref P3), ("is_started", .bl true), ("is_finished", .bl false)]) = H4 at h4 c4 n4 ⊢
          have W4 : WkR T I H4 (.ref a) a cd R l'.reverse true false := WkR.put (s3 _ _ ha2) (show 4 ≠ 1 by decide) (hR.same s03) ⟨P3, rfl, hP3⟩ l82 lt2 c4 h4
          refine ⟨_, rfl, a, _, _, rfl, h4, noWalk_report, .ref a, a, cd, R, l'.reverse, true, false, I, rfl, vr, W4, fun H5 rv c5 W5 p5 => ⟨le_line (by show 3 ≤ _; decide), fun L hL => ?_⟩⟩
          have s6 := same_upd (o := .lst [.str "result", rv, .bl false]) hL
          have nL : H L = none := by
            obtain ⟨_, _, _, _, _, hR5, _⟩ := id W5
            obtain ⟨_, hc5⟩ := hR5.cd
            exact n4 _ (chg_free c5 hc5 hL)
          refine q _ _ ((((Chg.of_same s03).trans (toA c4)).trans (c5.mono fun b h => .inr h)).trans (Chg.of_same s6)) ⟨l'.reverse, true, false, W5.same s6, ⟨rfl, rfl, rfl⟩, rfl, rfl, rfl, rfl⟩ (.arr (.inr ⟨nL, by rw [upd_same]; simp⟩) (SqL.of upd_same) (.cons (PlAt.pst ac_result nm_result) (.cons ((p5.same s6).mono fun b hb => .inr ⟨n4 b hb.1, fun z => hb.2 (free_upd z)⟩) (.cons (.bool false) .nil))))
        · have c3 : ¬ (0 : Int) < (((l.reverse.map intT).length : Nat) : Int) := fun z => c3 (decide_eq_true z)
          rw [ewl] at c3
          have l0 : l = [] := List.length_eq_zero_iff.mp (by omega)
          subst l0
          refine ⟨_, rfl, a, T.Walk, dx, _, rfl, ha2, T.clWalk, T.nWalk_is_finished, (show 4 < 1000 by decide), ?_⟩
          rw [pfWalk_is_finished]
          exact ⟨_, rfl, le_line (by show 2 ≤ _; decide), fun L hL => thr _ L s2 eN hL⟩
      · refine ⟨_, rfl, a, T.Walk, dx, _, rfl, ha2, T.clWalk, T.nWalk_is_finished, (show 4 < 1000 by decide), ?_⟩
        rw [pfWalk_is_finished]
        refine ⟨_, rfl, le_line (by show 2 ≤ _; decide), fun L hL => thr _ L s2 ?_ hL⟩
        rw [eN]
        cases l with
        | nil => rfl
        | cons c l' =>
          simp only
          rw [is_undo, if_neg c2]
  · have hb : (st && !fi) = false := by
      cases st <;> cases fi <;> first | rfl | exact absurd ⟨rfl, rfl⟩ hrun
    have eN : walkerThrow hh p = ({ hh with stage := .finished }, .thrown p) := by
      refine throw_not fun l es => ?_
      rw [es] at hst
      exact hrun ⟨hst.1, hst.2.1⟩
    refine itF hb (itF rfl ⟨_, rfl, a, _, _, rfl, ha, noWalk_is_running, .ref a, a, cd, R, w0, st, fi, I, rfl, hW, _, rfl, itF hb (itF rfl ⟨_, rfl, a, T.Walk, dx, _, rfl, ha, T.clWalk, T.nWalk_is_finished, (show 4 < 1000 by decide), ?_⟩)⟩)
    rw [pfWalk_is_finished]
    exact ⟨_, rfl, le_line (by show 2 ≤ _; decide), fun L hL => thr H L (Same.refl H) eN hL⟩

end
end SP

/-! ## X4 -/
set_option maxHeartbeats 4000000
namespace SP
open PySem PySem.Spec PyProof.Rows L2 SB
open SS (VC VG R Sz RateOk treeW ratesOf leadsTo)
open R7244e.Spec (reachable recurrentStates hasOneClass canMeet distribution wordProb endState coverage separation unstopped stopProbs survival entry target)
section
variable {P : Program} {w : World} {base : Heap}
variable {K : PySem.W.Frag} {mg : Str → Option Value}

open R7244e.Spec (wordP readWord Stage walkRecord wordRecord walkerNext walkerThrow Outcome yieldNext enumerationNext enumerationThrow collectFrom outcomeList continuableWords wordsOfLength)
theorem WdsAt.same {H H' : Hp} {rr : Addr} {l : List (List Nat)} (s : Same H H') (h : WdsAt (K := K) H rr l) : WdsAt (K := K) H' rr l := by
  obtain ⟨ws, h1, h2⟩ := h
  exact ⟨ws, s _ _ h1, Paired.imp (fun _ _ q => WdAt.same s q) h2⟩
theorem WdsAt.chg {M : Addr → Prop} {H H' : Hp} {rr : Addr} {l : List (List Nat)} (f : Off M (fun _ => False) H) (n : ¬ M rr) (s : Chg M H H') (h : WdsAt (K := K) H rr l) : WdsAt (K := K) H' rr l := by
  obtain ⟨ws, h1, h2⟩ := h
  exact ⟨ws, s _ _ h1 n, Paired.imp (fun _ _ q => WdAt.off f s q) h2⟩
theorem offLF {H : Hp} {x : Addr} {xs : List V} (h : H x = some (.lst xs)) : Off (· = x) (fun _ => False) H := offL h (fun z => z)
theorem Paired.app {α β : Type} {F : α → β → Prop} : ∀ {l l' : List α} {m m' : List β}, Paired F l m → Paired F l' m' → Paired F (l ++ l') (m ++ m')
  | _, _, _, _, .nil, h => h
  | _, _, _, _, .cons h t, h' => .cons h (Paired.app t h')
def twoOf (w : List Nat) : List (List Nat) := [w ++ [0], w ++ [1]]
theorem len_words : ∀ n, (wordsOfLength n).length = 2 ^ n
  | 0 => rfl
  | n + 1 => by
    have h := len_words n
    have key : ∀ l : List (List Nat), (l.flatMap fun w => R7244e.Spec.alphabet.map fun c => w ++ [c]).length = 2 * l.length := by
      intro l
      induction l with
      | nil => rfl
      | cons a l ih =>
        rw [List.flatMap_cons, List.length_append, ih, List.length_cons]
        show 2 + _ = _
        omega
    show ((wordsOfLength n).flatMap fun w => R7244e.Spec.alphabet.map fun c => w ++ [c]).length = _
    rw [key, h, Nat.pow_succ, Nat.mul_comm]
theorem len_wordsTo : ∀ n, (wordsTo n).length + 1 = 2 ^ (n + 1)
  | 0 => rfl
  | n + 1 => by
    have h := len_wordsTo n
    show (wordsTo n ++ wordsOfLength (n + 1)).length + 1 = _
    rw [List.length_append, len_words]
    rw [Nat.pow_succ 2 (n + 1)]
    omega
theorem two_le {n : Nat} (h : n ≤ 5) : 2 ^ n ≤ 32 := Nat.pow_le_pow_right (by decide) h
theorem words_succ (n : Nat) : wordsOfLength (n + 1) = (wordsOfLength n).flatMap twoOf := rfl
theorem take_flat {l : List (List Nat)} {j : Nat} {x : List Nat} (h : l[j]? = some x) : (l.take (j + 1)).flatMap twoOf = (l.take j).flatMap twoOf ++ twoOf x := by
  rw [take_snoc h, List.flatMap_append]
  simp
theorem len_flat (l : List (List Nat)) : (l.flatMap twoOf).length = 2 * l.length := by
  induction l with
  | nil => rfl
  | cons a l ih =>
    rw [List.flatMap_cons, List.length_append, ih, List.length_cons]
    show 2 + _ = _
    omega
theorem WdAt.upd {H : Hp} {D : Addr} {xs zs : List V} {v : V} {w : List Nat} (h : H D = some (.lst xs)) (q : WdAt K H v w) : WdAt K (upd H D (.lst zs)) v w := q.off (I := fun _ => False) (offLF h) chg1
abbrev s_words_to : Stmt := topS 44
theorem sc_words_to : FnScope ["most", "told", "here", "turn", "longer", "own"] ["most"] (defScope s_words_to) := SB.sc_by (by decide +kernel)
theorem len_words_to {T : TX K mg} : ∀ vs H Q E, sp_words_to T vs H Q E → vs.length = (["most"] : List Str).length := by
  rintro _ H Q E ⟨_, rfl, _⟩
  rfl
theorem ok_words_to (T : TX K mg)   {f : Addr} {fd : FuncData} (F : Fun K "words_to" "words_to" s_words_to f fd) : FnOk P w K mg base CX0 1 f fd ["most"] (sp_words_to T) := by
  refine F.ok sc_words_to len_words_to (fun cdv A outer s H vs Q E hr h => ⟨_, (pss_cons (ps_set (i := 1) sc_words_to.nd rfl (by first | exact Or.inl rfl | exact Or.inr rfl) (pe_lst (pa_cons (pe_tup pa_nil) pa_nil))) (pss_cons (ps_set (i := 2) sc_words_to.nd rfl (by first | exact Or.inl rfl | exact Or.inr rfl) (pe_lst (pa_cons (pe_tup pa_nil) pa_nil))) (pss_cons (ps_for (by first | exact PassesOwn.never | exact passes_of rfl) rfl (pi_range1 (by rfl) T.b_range (pa_cons (pv 0) pa_nil)) (pg_name (i := 3) sc_words_to.nd rfl (by first | exact Or.inl rfl | exact Or.inr rfl)) (pss_cons (ps_set (i := 4) sc_words_to.nd rfl (by first | exact Or.inl rfl | exact Or.inr rfl) (pe_lst pa_nil)) (pss_cons (ps_for (by first | exact PassesOwn.never | exact passes_of rfl) rfl (SB.kPiL (K := K) rfl (pv 2)) (pg_name (i := 5) sc_words_to.nd rfl (by first | exact Or.inl rfl | exact Or.inr rfl)) (pss_one (ps_expr (pe_bm PySem.F.plainAttrs_list PySem.F.slot_list_extend PySem.F.type_list_extend mt_extend (pv 4) (pa_cons (pe_lst (pa_cons (pe_op (kCatB (K := K) rfl) (pv 5) (pe_tup (pa_cons pe_int pa_nil))) (pa_cons (pe_op (kCatB (K := K) rfl) (pv 5) (pe_tup (pa_cons pe_int pa_nil))) pa_nil))) pa_nil))))) (pss_cons (ps_set (i := 2) sc_words_to.nd rfl (by first | exact Or.inl rfl | exact Or.inr rfl) (pv 4)) (pss_one (ps_expr (pe_bm PySem.F.plainAttrs_list PySem.F.slot_list_extend PySem.F.type_list_extend mt_extend (pv 1) (pa_cons (pv 2) pa_nil)))))))) (pss_one (ps_ret (pv 1)))))), ?_⟩)
  obtain ⟨n, rfl, hn, q⟩ := h
  refine ⟨le_line (by show 0 ≤ _; decide), fun E0 hE0 => ⟨le_line (by show 1 ≤ _; decide), fun D hD => ⟨le_line (by show 0 ≤ _; decide), fun E1 hE1 => ⟨le_line (by show 1 ≤ _; decide), fun B hB => ?_⟩⟩⟩⟩
  generalize eq1 : upd H E0 (.tup []) = H1 at hD hE1 hB ⊢
  have s1 : Same H H1 := by rw [← eq1]; exact same_upd hE0
  have t1 : H1 E0 = some (.tup []) := by rw [← eq1]; exact upd_same
  generalize eq2 : upd H1 D (.lst [.ref E0]) = H2 at hE1 hB ⊢
  have s2 : Same H1 H2 := by rw [← eq2]; exact same_upd hD
  have t2 : H2 D = some (.lst [.ref E0]) := by rw [← eq2]; exact upd_same
  generalize eq3 : upd H2 E1 (.tup []) = H3 at hB ⊢
  have s3 : Same H2 H3 := by rw [← eq3]; exact same_upd hE1
  have t3 : H3 E1 = some (.tup []) := by rw [← eq3]; exact upd_same
  generalize eq4 : upd H3 B (.lst [.ref E1]) = H4
  have s4 : Same H3 H4 := by rw [← eq4]; exact same_upd hB
  have t4 : H4 B = some (.lst [.ref E1]) := by rw [← eq4]; exact upd_same
  have nD : H D = none := s1.free hD
  have s04 : Same H H4 := s1.trans (s2.trans (s3.trans s4))
  have en : (((n : Nat) : Int)).toNat = n := Int.toNat_natCast n
  refine ⟨_, rfl, _, rfl, by omega, by omega, ?_⟩
  rw [en]
  have hDB : D ≠ B := fun z => by subst z; rw [s3 _ _ t2] at hB; cases hB
  refine for_range (lo := 0) (n := n) (fun k σ H' => ∃ (Bk : Addr) (o3 o4 o5 : Option V), σ = [some (intT n), some (.ref D), some (.ref Bk), o3, o4, o5] ∧ Same H H' ∧ D ≠ Bk ∧ WdsAt (K := K) H' D (wordsTo k) ∧ WdsAt (K := K) H' Bk (wordsOfLength k))
    ⟨B, none, none, none, rfl, s04, hDB, ⟨[.ref E0], s4 _ _ (s3 _ _ t2), .cons ⟨E0, rfl, SqT.of (s4 _ _ (s3 _ _ (s2 _ _ t1)))⟩ .nil⟩, ⟨[.ref E1], t4, .cons ⟨E1, rfl, SqT.of (s4 _ _ t3)⟩ .nil⟩⟩ ?_ ?_
  · rintro k σ H5 hk ⟨Bk, o3, o4, o5, rfl, s5, nDB, ⟨wd, d1, d2⟩, ⟨wb, b1, b2⟩⟩
    have lwb : wb.length = 2 ^ k := (Paired.length b2).trans (len_words k)
    have l32 := two_le (n := k) (by omega)
    refine ⟨le_line (by show 0 ≤ _; decide), fun L hL => ?_⟩
    have sL : Same H5 (upd H5 L (.lst [])) := same_upd hL
    have hLl : upd H5 L (.lst []) L = some (.lst []) := upd_same
    have nL0 := s5.free hL
    have nLD : L ≠ D := fun z => by rw [z, d1] at hL; cases hL
    have nLB : L ≠ Bk := fun z => by rw [z, b1] at hL; cases hL
    generalize upd H5 L (.lst []) = H6 at sL hLl ⊢
    refine ⟨_, rfl, Bk, rfl, ⟨_, SqL.of (sL _ _ b1)⟩, ?_⟩
    refine for_list (K := K) (a := Bk) (xs := wb) (fun j σ H' => ∃ o5 : Option V, σ = [some (intT n), some (.ref D), some (.ref Bk), some (V.int ((0 : Int) + (k : Nat))), some (.ref L), o5] ∧ Same H5 H' ∧ WdsAt (K := K) H' L (((wordsOfLength k).take j).flatMap twoOf))
      ⟨o5, rfl, sL, [], hLl, .nil⟩ (fun j σ H' _ ⟨_, _, s6, _⟩ => SqL.of (s6 _ _ b1)) ?_ ?_
    · rintro j x σ H7 hx ⟨o5, rfl, s7, ⟨wl, l1, l2⟩⟩
      obtain ⟨w, ew, hw⟩ := Paired.at b2 hx
      have hw7 := hw.same s7
      obtain ⟨xa, rfl, hxa⟩ := id hw7
      have lw : w.length ≤ 100 := by
        have : ∀ (n : Nat) (w : List Nat), w ∈ wordsOfLength n → w.length = n := by
          intro n
          induction n with
          | zero => intro w hw; simp [wordsOfLength] at hw; subst hw; rfl
          | succ n ih =>
            intro w hw
            rw [words_succ, List.mem_flatMap] at hw
            obtain ⟨u, hu, hw⟩ := hw
            have := ih u hu
            unfold twoOf at hw
            simp only [List.mem_cons, List.not_mem_nil, or_false] at hw
            rcases hw with rfl | rfl <;> rw [List.length_append, this] <;> rfl
        have := this k w (List.mem_of_getElem? ew)
        omega
      have lwl : wl.length ≤ 64 := by
        have := Paired.length l2
        rw [len_flat, List.length_take, len_words] at this
        omega
      refine ⟨_, rfl, .inl ⟨rfl, _, SqL.of l1⟩, _, rfl, le_line (by show 1 ≤ _; decide), fun P0 hP0 => ⟨xa, P0, _, _, rfl, rfl, same_tup (same_upd hP0) hxa, SqT.of upd_same, ?_, fun Q0 H8 s8 h8 => ?_⟩⟩
      · rw [List.length_map]
        exact le_line (by show _ + 1 ≤ _; omega)
      have s78 : Same H7 H8 := (same_upd hP0).trans s8
      refine ⟨_, rfl, le_line (by show 1 ≤ _; decide), fun P1 hP1 => ⟨xa, P1, _, _, rfl, rfl, same_tup (same_upd hP1) (same_tup s78 hxa), SqT.of upd_same, ?_, fun Q1 H9 s9 h9 => ?_⟩⟩
      · rw [List.length_map]
        exact le_line (by show _ + 1 ≤ _; omega)
      have s89 : Same H8 H9 := (same_upd hP1).trans s9
      have s79 := s78.trans s89
      refine ⟨le_line (by show 2 ≤ _; decide), fun Z hZ => ⟨L, Z, wl, [.ref Q0, .ref Q1], rfl, rfl, upd_keep (s79 _ _ l1) hZ, upd_same, le_line (by show _ + 2 ≤ _; omega), some (.ref xa), rfl, ?_, ?_⟩⟩
      · exact same_upd2 (same_upd2 (s7.trans s79) ((s7.trans s79).free hZ)) hL
      · rw [take_flat ew]
        have sZ : Same H9 (upd H9 Z (.lst [.ref Q0, .ref Q1])) := same_upd hZ
        have lZ := sZ _ _ (s79 _ _ l1)
        refine ⟨_, upd_same, Paired.app (Paired.imp (fun _ _ h => WdAt.upd lZ ((WdAt.same s79 h).same sZ)) l2) (.cons (WdAt.upd lZ (WdAt.same sZ (WdAt.same s89 ⟨Q0, rfl, ?_⟩))) (.cons (WdAt.upd lZ (WdAt.same sZ ⟨Q1, rfl, ?_⟩)) .nil))⟩
        · rw [List.map_append]
          exact h8
        · rw [List.map_append]
          exact h9
    · rintro σ H7 ⟨o5, rfl, s7, hl⟩
      rw [List.take_of_length_le (by rw [len_words, lwb]; exact Nat.le_refl _), ← words_succ] at hl
      obtain ⟨wl, l1, l2⟩ := hl
      have lwl : wl.length = 2 ^ (k + 1) := (Paired.length l2).trans (len_words (k + 1))
      have l33 := two_le (n := k + 1) (by omega)
      have lwd := Paired.length d2
      have lwt := len_wordsTo k
      have d7 := s7 _ _ d1
      refine ⟨_, rfl, _, rfl, .inl ⟨rfl, _, SqL.of d7⟩, _, rfl, D, L, wd, wl, rfl, rfl, d7, l1, le_line (by omega), L, some (V.int ((0 : Int) + (k : Nat))), some (.ref L), o5, rfl, same_upd2 (s5.trans s7) nD, fun z => nLD z.symm, ?_, ?_⟩
      · exact ⟨_, upd_same, Paired.app (Paired.imp (fun _ _ h => WdAt.upd d7 (WdAt.same s7 h)) d2) (Paired.imp (fun _ _ h => WdAt.upd d7 h) l2)⟩
      · exact ⟨wl, by rw [upd_ne nLD]; exact l1, Paired.imp (fun _ _ h => WdAt.upd d7 h) l2⟩
  · rintro σ H5 ⟨Bk, o3, o4, o5, rfl, s5, nDB, h1, h2⟩
    exact ⟨_, rfl, q H5 D s5 nD h1⟩
theorem offWE {T : TX K mg} {I : Addr → Prop} {H : Hp} {x C dx : Addr} {fs : List (Str × V)} (h : H x = some (.ins C dx fs)) (e : C = T.Enumeration) : OffR T (· = x) I H := offIR h (e ▸ T.neER) (e ▸ T.neED)
/-- the instance, the dict of coverages, and the list of the remaining words -/
theorem WdsAt.upd {H : Hp} {D : Addr} {xs zs : List V} {rr : Addr} {l : List (List Nat)} (h : H D = some (.lst xs)) (n : rr ≠ D) (q : WdsAt (K := K) H rr l) : WdsAt (K := K) (upd H D (.lst zs)) rr l := q.chg (offLF h) n chg1
theorem words_all : ∀ n, wordsTo n = (List.range (n + 1)).flatMap wordsOfLength
  | 0 => rfl
  | n + 1 => by
    rw [List.range_succ, List.flatMap_append, ← words_all n]
    simp [wordsTo]
theorem cont_eq (t : Chain) (g : Bias) (y : List Rat) (p n : Nat) : continuableWords t g y p n = (wordsTo n).filter fun w => survival t g y p w != 0 := by
  rw [words_all, List.filter_flatMap]
  rfl
theorem words_let : ∀ (n : Nat) (w : List Nat), w ∈ wordsOfLength n → w.length = n ∧ Let w
  | 0, w, h => by
    simp [wordsOfLength] at h
    subst h
    exact ⟨rfl, fun c hc => by cases hc⟩
  | n + 1, w, h => by
    rw [words_succ, List.mem_flatMap] at h
    obtain ⟨u, hu, hw⟩ := h
    obtain ⟨h1, h2⟩ := words_let n u hu
    unfold twoOf at hw
    simp only [List.mem_cons, List.not_mem_nil, or_false] at hw
    rcases hw with rfl | rfl
    · refine ⟨by rw [List.length_append, h1]; rfl, fun c hc => ?_⟩
      rcases List.mem_append.mp hc with hc | hc
      · exact h2 c hc
      · simp at hc; omega
    · refine ⟨by rw [List.length_append, h1]; rfl, fun c hc => ?_⟩
      rcases List.mem_append.mp hc with hc | hc
      · exact h2 c hc
      · simp at hc; omega
theorem wordsTo_let {n : Nat} {w : List Nat} (h : w ∈ wordsTo n) : w.length ≤ n ∧ Let w := by
  rw [words_all, List.mem_flatMap] at h
  obtain ⟨m, hm, h⟩ := h
  have hm := List.mem_range.mp hm
  obtain ⟨h1, h2⟩ := words_let m w h
  exact ⟨by omega, h2⟩
theorem filter_snoc {α : Type} {l : List α} {j : Nat} {x : α} (f : α → Bool) (h : l[j]? = some x) : (l.take (j + 1)).filter f = (l.take j).filter f ++ (if f x = true then [x] else []) := by
  rw [take_snoc h, List.filter_append]
  by_cases e : f x = true
  · rw [if_pos e]
    simp [e]
  · rw [if_neg e]
    simp [e]
abbrev s_Enumeration___init__ : Stmt := inClass (topS 45) 0
theorem sc_Enumeration___init__ : FnScope ["self", "rule", "most", "own"] ["self", "rule", "most"] (defScope s_Enumeration___init__) := SB.sc_by (by decide +kernel)
theorem len_Enumeration___init__ {T : TX K mg} : ∀ vs H Q E, sp_Enumeration___init__ T vs H Q E → vs.length = (["self", "rule", "most"] : List Str).length := by
  rintro _ H Q E ⟨_, _, _, _, _, _, _, rfl, _⟩
  rfl
theorem ok_Enumeration___init__ (T : TX K mg) (c_words_to : SB.Cal P w K mg base 1 "words_to" (sp_words_to T)) (m_Rule_may_continue : SB.Met P w K mg base 8 T.Rule "may_continue" (sp_Rule_may_continue T))  {f : Addr} {fd : FuncData} (F : Fun K "__init__" "Enumeration.__init__" s_Enumeration___init__ f fd) : FnOk P w K mg base CX0 9 f fd ["self", "rule", "most"] (sp_Enumeration___init__ T) := by
  refine F.ok sc_Enumeration___init__ len_Enumeration___init__ (fun cdv A outer s H vs Q E hr h => ⟨_, (pss_cons (ps_fld (pv 0) (pv 1) rfl) (pss_cons (ps_fld (pv 0) (pe_lc (own := [("own", 3)]) (g := (gName 3)) (by rfl) sc_Enumeration___init__.nd (SB.kPiL (K := K) rfl (SB.cal c_words_to hr (by decide) rfl (pa_cons (pv 2) pa_nil))) (blkOk_by (own := [("own", 3)]) (N := ["self", "rule", "most", "own"]) (sc := (defScope s_Enumeration___init__)) (by decide +kernel)) (fun _ _ _ _ _ => (pg_name (i := 3) sc_Enumeration___init__.nd rfl (by first | exact Or.inl rfl | exact Or.inr rfl))) (fun _ _ _ _ _ => pts_one (pt_val (SB.met m_Rule_may_continue hr (by decide) (pv 1) (pa_cons (pv 3) pa_nil)))) (fun _ _ _ _ _ => (pv 3))) rfl) (pss_cons (ps_fld (pv 0) pe_int rfl) (pss_cons (ps_fld (pv 0) pe_int rfl) (pss_one (ps_fld (pv 0) pe_bl rfl)))))), ?_⟩)
  obtain ⟨x, dx, cd, r, R, most, I, rfl, hx, vr, hm, hR, al, q⟩ := h
  refine ⟨_, rfl, _, rfl, x, T.Enumeration, dx, [], rfl, hx, T.clEnumeration, T.nEnumeration_rule, by decide, ?_⟩
  rw [pnEnumeration_rule]
  have ncd : cd ≠ x := fun z => by
    obtain ⟨kvs, hc⟩ := hR.cd
    rw [z, hx] at hc
    cases hc
  have c1 : Chg (· = x) H (upd H x (.ins T.Enumeration dx [("rule", r)])) := chg1
  have h1 : upd H x (.ins T.Enumeration dx [("rule", r)]) x = some (.ins T.Enumeration dx [("rule", r)]) := upd_same
  have n1 : ∀ b, upd H x (.ins T.Enumeration dx [("rule", r)]) b = none → H b = none := fun b h => free_upd h
  generalize upd H x (.ins T.Enumeration dx [("rule", r)]) = H1 at c1 h1 n1 ⊢
  have hR1 := hR.off (offIR hx T.neER T.neED) ncd c1
  refine ⟨_, rfl, most, rfl, hm, fun H2 W2 s2 n2 wds2 => ?_⟩
  obtain ⟨ws, w1, w2⟩ := wds2
  have hR2 := hR1.same s2
  obtain ⟨ra, _, _, _, _, rfl, _⟩ := id hR2
  obtain ⟨kvs2, hc2⟩ := hR2.cd
  have nW : W2 ≠ cd := fun z => by rw [z, hc2] at w1; cases w1
  have lw : ws.length ≤ 31 := by
    have := Paired.length w2
    have e := len_wordsTo most
    have := two_le (n := most + 1) (by omega)
    omega
  refine ⟨W2, rfl, ⟨_, SqL.of w1⟩, fun D hD => ?_⟩
  refine lc_list (K := K) (a := W2) (xs := ws) (fun j H3 => Chg (· = cd) H2 H3 ∧ RuAt T I H3 (.ref ra) cd R ∧ WdsAt (K := K) H3 D (((wordsTo most).take j).filter fun w => survival R.t R.g R.y R.p w != 0))
    ⟨Chg.of_same (same_upd hD), hR2.same (same_upd hD), [], upd_same, .nil⟩ (fun j H3 _ ⟨c3, _⟩ => SqL.of (c3 _ _ w1 nW)) ?_ ?_
  · rintro j xv H3 hxj ⟨c3, r3, wl, l1, l2⟩
    obtain ⟨w, ew, hw⟩ := Paired.at w2 hxj
    obtain ⟨b1, b2⟩ := wordsTo_let (List.mem_of_getElem? ew)
    obtain ⟨rdx, d, rs, kvs, hra, _⟩ := r3.open
    obtain ⟨kvs3, hc3⟩ := r3.cd
    have nDc : D ≠ cd := fun z => by rw [z, hc3] at l1; cases l1
    refine ⟨rfl, _, rfl, ra, _, _, rfl, hra, noRule_may_continue, _, rfl, .ref ra, xv, cd, R, w, I, rfl, vr, hR2.wd c3 hw, by omega, b2, r3, fun H4 c4 r4 => ⟨_, rfl, ?_⟩⟩
    have l14 := c4 _ _ l1 nDc
    have l24 := Paired.imp (fun _ _ h => r3.wd c4 h) l2
    have c24 := c3.trans c4
    have es := filter_snoc (fun w => survival R.t R.g R.y R.p w != 0) ew
    refine ite2 (fun c => ?_) (fun c => ?_)
    · rw [if_pos c] at es
      refine ⟨_, rfl, wl, l14, ?_, chg_upd c24 (.inl hD), hR2.updL r4 c24 hD l14, ?_⟩
      · have hle : wl.length ≤ 31 := by
          rw [Paired.length l2]
          exact Nat.le_trans (List.length_filter_le _ _) (by rw [List.length_take]; have := Paired.length w2; omega)
        exact lt_line (by omega)
      · rw [es]
        exact ⟨_, upd_same, Paired.snoc (Paired.imp (fun _ _ h => WdAt.upd l14 h) l24) (WdAt.upd l14 (hR2.wd c24 hw))⟩
    · rw [if_neg c, List.append_nil] at es
      refine ⟨c24, r4, ?_⟩
      rw [es]
      exact ⟨wl, l14, l24⟩
  · rintro H3 ⟨c3, r3, hl⟩
    rw [List.take_of_length_le (by rw [Paired.length w2]; exact Nat.le_refl _), ← cont_eq] at hl
    have h2x := s2 _ _ h1
    have h3x := c3 _ _ h2x (fun z => ncd z.symm)
    obtain ⟨kvs3, hc3⟩ := r3.cd
    refine ⟨_, rfl, x, T.Enumeration, dx, _, rfl, h3x, T.clEnumeration, T.nEnumeration_remaining, (show 1 < 1000 by decide), ?_⟩
    rw [pnEnumeration_remaining]
    refine ⟨_, rfl, x, T.Enumeration, dx, _, rfl, upd_same, T.clEnumeration, T.nEnumeration_many, (show 2 < 1000 by decide), ?_⟩
    rw [pnEnumeration_many]
    refine ⟨_, rfl, x, T.Enumeration, dx, _, rfl, upd_same, T.clEnumeration, T.nEnumeration_last, (show 3 < 1000 by decide), ?_⟩
    rw [pnEnumeration_last]
    refine ⟨_, rfl, x, T.Enumeration, dx, _, rfl, upd_same, T.clEnumeration, T.nEnumeration_is_finished, (show 4 < 1000 by decide), ?_⟩
    rw [pnEnumeration_is_finished]
    have c37 := chg_upd (M := (· = x)) (o := .ins T.Enumeration dx [("rule", .ref ra), ("remaining", .ref D), ("many", .int 0), ("last", .int 0), ("is_finished", .bl false)]) (chg_upd (o := .ins T.Enumeration dx [("rule", .ref ra), ("remaining", .ref D), ("many", .int 0), ("last", .int 0)]) (chg_upd (o := .ins T.Enumeration dx [("rule", .ref ra), ("remaining", .ref D), ("many", .int 0)]) (chg_upd (o := .ins T.Enumeration dx [("rule", .ref ra), ("remaining", .ref D)]) (Chg.refl H3) (.inr rfl)) (.inr rfl)) (.inr rfl)) (.inr rfl)
    have nDx : D ≠ x := ne_of_none h2x hD |>.symm
    have nD0 : H D = none := n1 _ (s2.free hD)
    refine q _ D ((((c1.mono fun b h => .inl h).trans (Chg.of_same s2)).trans (c3.mono fun b h => .inr h)).trans (c37.mono fun b h => .inl h)) nD0 ⟨dx, .ref ra, rfl, upd_same, r3.off (offIR h3x T.neER T.neED) ncd c37, hl.chg (offI h3x) nDx c37, fun i => al D i nD0, fun w hw => ?_, ?_⟩
    · rw [cont_eq] at hw
      obtain ⟨b1, b2⟩ := wordsTo_let (List.mem_filter.mp hw).1
      exact ⟨by omega, b2⟩
    · rw [cont_eq]
      have := List.length_filter_le (fun w => survival R.t R.g R.y R.p w != 0) (wordsTo most)
      have e := len_wordsTo most
      have := two_le (n := most + 1) (by omega)
      omega

end
end SP

/-! ## X5 -/
set_option maxHeartbeats 4000000
namespace SP
open PySem PySem.Spec PyProof.Rows L2 SB
open SS (VC VG R Sz RateOk treeW ratesOf leadsTo)
open R7244e.Spec (reachable recurrentStates hasOneClass canMeet distribution wordProb endState coverage separation unstopped stopProbs survival entry target)
section
variable {P : Program} {w : World} {base : Heap}
variable {K : PySem.W.Frag} {mg : Str → Option Value}

open R7244e.Spec (wordP readWord Stage walkRecord wordRecord walkerNext walkerThrow Outcome yieldNext enumerationNext enumerationThrow collectFrom outcomeList continuableWords wordsOfLength)
theorem StE.live {s : Stage Unit} {many : Nat} {fi : Bool} (h : StE s many fi) (n : s ≠ .finished) : fi = false := by
  cases s with
  | notStarted => exact h.2
  | running l => exact h.2
  | finished => exact absurd rfl n
theorem EnR.put {T : TX K mg} {I : Addr → Prop} {H H' : Hp} {a cd rr dx : Addr} {r : V} {R : Ru} {rem : List (List Nat)} {many last : Nat} {fi : Bool} {fs : List (Str × V)} (ha : H a = some (.ins T.Enumeration dx fs)) (hR : RuAt T I H r cd R) (hrr : WdsAt (K := K) H rr rem)
    (nI : ¬ I rr) (hlet : ∀ w ∈ rem, w.length ≤ 4 ∧ Let w) (hlen : rem.length ≤ 31) (c : Chg (· = a) H H') (h' : H' a = some (.ins T.Enumeration dx [("rule", r), ("remaining", .ref rr), ("many", intT many), ("last", intT last), ("is_finished", .bl fi)])) : EnR T I H' (.ref a) a cd rr R rem many last fi := by
  obtain ⟨kvs, hc⟩ := hR.cd
  have ne : cd ≠ a := fun z => by rw [z, ha] at hc; cases hc
  have n2 : rr ≠ a := fun z => by
    obtain ⟨ws, w1, _⟩ := hrr
    rw [z, ha] at w1
    cases w1
  exact ⟨dx, r, rfl, h', hR.off (offIR ha T.neER T.neED) ne c, hrr.chg (offI ha) n2 c, nI, hlet, hlen⟩
theorem EnR.same {T : TX K mg} {I : Addr → Prop} {H H' : Hp} {v : V} {a cd rr : Addr} {R : Ru} {rem : List (List Nat)} {many last : Nat} {fi : Bool} (s : Same H H') (h : EnR T I H v a cd rr R rem many last fi) : EnR T I H' v a cd rr R rem many last fi := by
  obtain ⟨dx, r, e, ha, hR, hrr, h3⟩ := h
  exact ⟨dx, r, e, s _ _ ha, hR.same s, hrr.same s, h3⟩
theorem EnAt.same {T : TX K mg} {I : Addr → Prop} {H H' : Hp} {v : V} {a cd rr : Addr} {R : Ru} {h : Enum} (s : Same H H') (q : EnAt T I H v a cd rr R h) : EnAt T I H' v a cd rr R h := by
  obtain ⟨fi, h1, h2⟩ := q
  exact ⟨fi, h1.same s, h2⟩
theorem seq0 {n : Nat} (h : 0 < n) : seqIndex? 0 n = some 0 := by
  unfold seqIndex?
  simp [h]
abbrev s_Enumeration_advance : Stmt := inClass (topS 45) 1
theorem sc_Enumeration_advance : FnScope ["self", "own", "drawn", "state", "row"] ["self"] (defScope s_Enumeration_advance) := SB.sc_by (by decide +kernel)
theorem len_Enumeration_advance {T : TX K mg} : ∀ vs H Q E, sp_Enumeration_advance T vs H Q E → vs.length = (["self"] : List Str).length := by
  rintro _ H Q E ⟨_, _, _, _, _, _, _, rfl, _⟩
  rfl
theorem ok_Enumeration_advance (T : TX K mg) (c_record : SB.Cal P w K mg base 3 "record" (sp_record T)) (c_text_of : SB.Cal P w K mg base 3 "text_of" (sp_text_of T)) (m_Drawn_probability_of : SB.Met P w K mg base 3 T.Drawn "probability_of" (sp_Drawn_probability_of T)) (m_Drawn_state_behind : SB.Met P w K mg base 1 T.Drawn "state_behind" (sp_Drawn_state_behind T))  {f : Addr} {fd : FuncData} (F : Fun K "advance" "Enumeration.advance" s_Enumeration_advance f fd) : FnOk P w K mg base CX0 4 f fd ["self"] (sp_Enumeration_advance T) := by
  refine F.ok sc_Enumeration_advance len_Enumeration_advance (fun cdv A outer s H vs Q E hr h => ⟨_, (pss_cons (ps_if (pt_cmpR op_eq (pe_callB (SB.kLen (K := K) rfl) (by rfl) T.b_len PySem.boot_len (pa_cons (SB.kFld (K := K) rfl (pv 0) rfl) pa_nil)) pe_int (nomark _)) (pss_cons (ps_fld (pv 0) pe_bl rfl) (pss_one (ps_ret (pe_tup (pa_cons (SB.kFld (K := K) rfl (pv 0) rfl) (pa_cons pe_bl pa_nil)))))) pss_nil) (pss_cons (ps_set (i := 1) sc_Enumeration_advance.nd rfl (by first | exact Or.inl rfl | exact Or.inr rfl) (pe_bm PySem.F.plainAttrs_list PySem.F.slot_list_pop PySem.F.type_list_pop mt_popAt (SB.kFld (K := K) rfl (pv 0) rfl) (pa_cons pe_int pa_nil))) (pss_cons (ps_fldaug (pv 0) pe_int in_add) (pss_cons (ps_fld (pv 0) (pe_callB (SB.kLen (K := K) rfl) (by rfl) T.b_len PySem.boot_len (pa_cons (pv 1) pa_nil)) rfl) (pss_cons (ps_set (i := 2) sc_Enumeration_advance.nd rfl (by first | exact Or.inl rfl | exact Or.inr rfl) (SB.kFld (K := K) rfl (SB.kFld (K := K) rfl (pv 0) rfl) rfl)) (pss_cons (ps_set (i := 3) sc_Enumeration_advance.nd rfl (by first | exact Or.inl rfl | exact Or.inr rfl) (SB.met m_Drawn_state_behind hr (by decide) (pv 2) (pa_cons (SB.kFld (K := K) rfl (SB.kFld (K := K) rfl (pv 0) rfl) rfl) (pa_cons (pv 1) pa_nil)))) (pss_cons (ps_set (i := 4) sc_Enumeration_advance.nd rfl (by first | exact Or.inl rfl | exact Or.inr rfl) (pe_lst (pa_cons (SB.cal c_text_of hr (by decide) rfl (pa_cons (pv 1) pa_nil)) (pa_cons (pv 3) (pa_cons (pe_callTy (SB.kListOf (K := K) rfl) (by rfl) T.b_list (by decide +kernel) (pa_cons (SB.met m_Drawn_probability_of hr (by decide) (pv 2) (pa_cons (pv 1) pa_nil)) pa_nil)) pa_nil))))) (pss_one (ps_ret (pe_tup (pa_cons (SB.cal c_record hr (by decide) rfl (pa_cons (pe_lst (pa_cons pe_str (pa_cons pe_str (pa_cons pe_str pa_nil)))) (pa_cons (pv 4) pa_nil))) (pa_cons pe_bl pa_nil)))))))))))), ?_⟩)
  obtain ⟨v, a, cd, rr, R, hh, I, rfl, vr, ⟨fi, ⟨dx, r, rfl, ha, hR, hrr, nI, hlet, hlen⟩, hst, e1, e2, e4⟩, hnf, q⟩ := h
  have efi := hst.live hnf
  subst efi
  obtain ⟨ws, w1, w2⟩ := id hrr
  have toA : ∀ {Hx Hy : Hp}, Chg (· = a) Hx Hy → Chg (Two a rr) Hx Hy := fun c => c.mono fun b h => .inl h
  refine ⟨_, rfl, a, T.Enumeration, _, _, _, rfl, ha, T.clEnumeration, T.nEnumeration_remaining, lkEnumeration_remaining, rr, ws, rfl, .inl (SqL.of w1), rfl, _, rfl, ?_⟩
  have et : decide (V.int ((ws.length : Nat) : Int) = V.int 0) = decide (ws.length = 0) := by
    have := eqi ws.length 0
    rw [show (V.int ((ws.length : Nat) : Int)) = intT ws.length from rfl, this, decide_eq_decide]
    omega
  refine ite2 (fun c0 => ?_) (fun c0 => ?_)
  · have c0 : ws.length = 0 := of_decide_eq_true (et ▸ c0)
    have er : hh.remaining = [] := List.length_eq_zero_iff.mp (by rw [← Paired.length w2]; exact c0)
    refine ⟨_, rfl, a, T.Enumeration, dx, _, rfl, ha, T.clEnumeration, T.nEnumeration_is_finished, (show 5 < 1000 by decide), ?_⟩
    rw [pfEnumeration_is_finished]
    have c3 : Chg (· = a) H (upd H a (.ins T.Enumeration dx [("rule", r), ("remaining", .ref rr), ("many", intT hh.yielded), ("last", intT hh.lastLength), ("is_finished", .bl true)])) := chg1
    have h3 : upd H a (.ins T.Enumeration dx [("rule", r), ("remaining", .ref rr), ("many", intT hh.yielded), ("last", intT hh.lastLength), ("is_finished", .bl true)]) a = some (.ins T.Enumeration dx [("rule", r), ("remaining", .ref rr), ("many", intT hh.yielded), ("last", intT hh.lastLength), ("is_finished", .bl true)]) := upd_same
    generalize upd H a (.ins T.Enumeration dx [("rule", r), ("remaining", .ref rr), ("many", intT hh.yielded), ("last", intT hh.lastLength), ("is_finished", .bl true)]) = H3 at c3 h3 ⊢
    refine ⟨_, rfl, a, T.Enumeration, _, _, _, rfl, h3, T.clEnumeration, T.nEnumeration_many, lkEnumeration_many, le_line (by show 2 ≤ _; decide), fun P hP => ?_⟩
    rw [er] at q hrr hlet hlen
    have s6 := same_upd (o := .tup [intT hh.yielded, .bl true]) hP
    have E3 := EnR.put ha hR hrr nI hlet hlen c3 h3
    exact q _ P _ _ true ((toA c3).trans (Chg.of_same s6)) ⟨true, E3.same s6, rfl, e1, e2, e4⟩ (SqT.of upd_same) rfl (.num _)
  · have c0 : ¬ ws.length = 0 := fun z => c0 (et ▸ decide_eq_true z)
    match hrem : hh.remaining, ws, w1, w2, c0 with
    | [], [], _, _, c0 => exact absurd rfl c0
    | [], _ :: _, _, w2, _ => cases w2
    | _ :: _, [], _, w2, _ => cases w2
    | w0 :: rest, x :: xs, w1, .cons hw w2, _ =>
    rw [hrem] at q hlet hlen
    obtain ⟨xa, rfl, hxa⟩ := id hw
    obtain ⟨lw, ltw⟩ := hlet w0 List.mem_cons_self
    refine ⟨_, rfl, a, T.Enumeration, _, _, _, rfl, ha, T.clEnumeration, T.nEnumeration_remaining, lkEnumeration_remaining, .inl ⟨rfl, _, SqL.of w1⟩, rr, _, 0, 0, .ref xa, rfl, rfl, w1, by decide, by decide, seq0 (by show 0 < _ + 1; omega), rfl, ?_⟩
    have c1 : Chg (· = rr) H (upd H rr (.lst xs)) := chg1
    have h1 : upd H rr (.lst xs) rr = some (.lst xs) := upd_same
    have n1 : ∀ b, upd H rr (.lst xs) b = none → H b = none := fun b h => free_upd h
    show _
    have eer : (V.ref xa :: xs).eraseIdx 0 = xs := rfl
    rw [eer]
    generalize upd H rr (.lst xs) = H1 at c1 h1 n1 ⊢
    have nar : a ≠ rr := fun z => by rw [z, w1] at ha; cases ha
    have h1a := c1 _ _ ha nar
    refine ⟨_, rfl, a, T.Enumeration, dx, _, _, rfl, h1a, T.clEnumeration, T.nEnumeration_many, lkEnumeration_many, _, _, rfl, rfl, dx, _, h1a, (show 5 < 1000 by decide), ?_⟩
    rw [pfEnumeration_many]
    have oF : Off (· = rr) (fun _ => False) H := offLF w1
    have c12 : Chg (· = a) H1 (upd H1 a (.ins T.Enumeration dx [("rule", r), ("remaining", .ref rr), ("many", .int (((hh.yielded : Nat) : Int) + 1)), ("last", intT hh.lastLength), ("is_finished", .bl false)])) := chg1
    have hx1 : SqT K H1 xa (w0.map intT) := oF.sqT c1 hxa
    have hx2 := (offI (I := Any) h1a).sqT c12 hx1
    refine ⟨_, rfl, xa, _, rfl, .inr hx2, _, rfl, a, T.Enumeration, dx, _, rfl, upd_same, T.clEnumeration, T.nEnumeration_last, (show 5 < 1000 by decide), ?_⟩
    rw [pfEnumeration_last, List.length_map]
    have c3 : Chg (· = a) H1 (upd (upd H1 a (.ins T.Enumeration dx [("rule", r), ("remaining", .ref rr), ("many", .int (((hh.yielded : Nat) : Int) + 1)), ("last", intT hh.lastLength), ("is_finished", .bl false)])) a (.ins T.Enumeration dx [("rule", r), ("remaining", .ref rr), ("many", .int (((hh.yielded : Nat) : Int) + 1)), ("last", .int ((w0.length : Nat) : Int)), ("is_finished", .bl false)])) := chg_upd c12 (.inr rfl)
    have h3 : upd (upd H1 a (.ins T.Enumeration dx [("rule", r), ("remaining", .ref rr), ("many", .int (((hh.yielded : Nat) : Int) + 1)), ("last", intT hh.lastLength), ("is_finished", .bl false)])) a (.ins T.Enumeration dx [("rule", r), ("remaining", .ref rr), ("many", .int (((hh.yielded : Nat) : Int) + 1)), ("last", .int ((w0.length : Nat) : Int)), ("is_finished", .bl false)]) a = some (.ins T.Enumeration dx [("rule", r), ("remaining", .ref rr), ("many", intT (hh.yielded + 1)), ("last", intT w0.length), ("is_finished", .bl false)]) := by
      rw [upd_same, intT_addc]
      rfl
    have n3 : ∀ b, upd (upd H1 a (.ins T.Enumeration dx [("rule", r), ("remaining", .ref rr), ("many", .int (((hh.yielded : Nat) : Int) + 1)), ("last", intT hh.lastLength), ("is_finished", .bl false)])) a (.ins T.Enumeration dx [("rule", r), ("remaining", .ref rr), ("many", .int (((hh.yielded : Nat) : Int) + 1)), ("last", .int ((w0.length : Nat) : Int)), ("is_finished", .bl false)]) b = none → H b = none := fun b h => n1 b (free_upd (free_upd h))
    dsimp only at *
    generalize upd (upd H1 a (.ins T.Enumeration dx [("rule", r), ("remaining", .ref rr), ("many", .int (((hh.yielded : Nat) : Int) + 1)), ("last", intT hh.lastLength), ("is_finished", .bl false)])) a (.ins T.Enumeration dx [("rule", r), ("remaining", .ref rr), ("many", .int (((hh.yielded : Nat) : Int) + 1)), ("last", .int ((w0.length : Nat) : Int)), ("is_finished", .bl false)]) = H3 at h3 c3 n3 ⊢
    -- the heap behind: the list is shorter, the instance tells so
    have oR : OffR T (· = rr) I H := { offL w1 nI with ins := fun b C dx fs e z => by subst e; rw [w1] at z; cases z }
    have ncr : cd ≠ rr := fun z => by
      obtain ⟨kvs, hc⟩ := hR.cd
      rw [z, w1] at hc
      cases hc
    have hR1 := hR.off oR ncr c1
    have hrr1 : WdsAt (K := K) H1 rr rest := ⟨xs, h1, Paired.imp (fun _ _ h => WdAt.off oF c1 h) w2⟩
    have E3 : EnR T I H3 (.ref a) a cd rr R rest (hh.yielded + 1) w0.length false := EnR.put h1a hR1 hrr1 nI (fun w hw => hlet w (List.mem_cons_of_mem _ hw)) (by rw [List.length_cons] at hlen; omega) c3 h3
    have hw3 : WdAt K H3 (.ref xa) w0 := WdAt.off (I := Any) (offI h1a) c3 ⟨xa, rfl, hx1⟩
    have c03 : Chg (Two a rr) H H3 := (c1.mono fun b h => .inr h).trans (toA c3)
    have nca : cd ≠ a := fun z => by
      obtain ⟨kvs, hc⟩ := hR.cd
      rw [z, ha] at hc
      cases hc
    have hR3 := hR1.off (offIR h1a T.neER T.neED) nca c3
    obtain ⟨ra, _, _, _, _, rfl, _⟩ := id hR3
    obtain ⟨rdx, d, rs, kvs, hra, hd, hrs, hc⟩ := hR3.open
    obtain ⟨da, ddx, dc, dws, rfl, hda, _⟩ := id hd
    refine ⟨_, rfl, a, T.Enumeration, _, _, _, rfl, h3, T.clEnumeration, T.nEnumeration_rule, lkEnumeration_rule, ra, T.Rule, _, _, _, rfl, hra, T.clRule, T.nRule_drawn, lkRule_drawn, _, rfl, da, _, _, rfl, hda, noDrawn_state_behind, _, rfl, a, T.Enumeration, _, _, _, rfl, h3, T.clEnumeration, T.nEnumeration_rule, lkEnumeration_rule, ra, T.Rule, _, _, _, rfl, hra, T.clRule, T.nRule_start, lkRule_start, _, rfl, .ref da, .ref xa, R.t, R.g, R.p, w0, rfl, vr.v, hd.any, vr.p, hw3, by omega, ltw, _, rfl, .ref xa, w0, rfl, hw3, ltw, by omega, fun H5 tx s5 ptx => ?_⟩
    have hda5 := s5 _ _ hda
    refine ⟨_, rfl, _, rfl, da, _, _, rfl, hda5, noDrawn_probability_of, _, rfl, .ref da, .ref xa, R.t, R.g, w0, rfl, vr.v, vr.g, hd.any.same s5, hw3.same s5, by omega, ltw, fun H6 pr s6 f6 => ?_⟩
    obtain ⟨pa, rfl, hpa⟩ := f6
    refine ⟨pa, _, rfl, .inr hpa, fun P1 hP1 => ⟨le_line (by show 3 ≤ _; decide), fun L hL => ⟨le_line (by show 3 ≤ _; decide), fun N hN => ?_⟩⟩⟩
    generalize eq7 : upd H6 P1 (.lst _) = H7 at hL hN ⊢
    have s67 : Same H6 H7 := by rw [← eq7]; exact same_upd hP1
    have h7P : H7 P1 = some (.lst [.int (wordProb R.g w0).num, .int ((wordProb R.g w0).den : Nat)]) := by rw [← eq7]; exact upd_same
    generalize eq8 : upd H7 L (.lst _) = H8 at hN ⊢
    have s78 : Same H7 H8 := by rw [← eq8]; exact same_upd hL
    have h8L : H8 L = some (.lst [tx, intT (endState R.t R.p w0), .ref P1]) := by rw [← eq8]; exact upd_same
    generalize eq9 : upd H8 N (.lst _) = H9
    have s89 : Same H8 H9 := by rw [← eq9]; exact same_upd hN
    have h9N : H9 N = some (.lst (([("word" : Str), "state", "probability"]).map V.str)) := by rw [← eq9]; exact upd_same
    have s36 := s5.trans s6
    have s39 := s36.trans (s67.trans (s78.trans s89))
    have i1 : FreshA H H9 P1 := ⟨n3 _ (s36.free hP1), by rw [s89 _ _ (s78 _ _ h7P)]; simp⟩
    refine ⟨_, rfl, N, L, [("word" : Str), "state", "probability"], [tx, intT (endState R.t R.p w0), .ref P1], [wordP w0, R7244e.Spec.nat (endState R.t R.p w0), R7244e.Spec.ratP (wordProb R.g w0)], FreshA H H9, rfl, SqL.of h9N, SqL.of (s89 _ _ h8L), ?_, fun b hb => hb.2, rfl, (show 3 ≤ 100 by decide), ?_, fun H10 r10 s10 p10 => ⟨le_line (by show 2 ≤ _; decide), fun P hP => ?_⟩⟩
    · exact .cons ((ptx (FreshA H H9) true).same (s6.trans (s67.trans (s78.trans s89)))) (.cons (.num _) (.cons (PlAt.rat i1 (s89 _ _ (s78 _ _ h7P))) .nil))
    · intro s hs
      simp only [List.mem_cons, List.not_mem_nil, or_false] at hs
      rcases hs with h | h | h <;> subst h
      · exact ac_word
      · exact ac_state
      · exact ac_probability
    · have s11 := same_upd (o := .tup [r10, .bl false]) hP
      have s311 := s39.trans (s10.trans s11)
      have e : R7244e.Spec.Plain.obj ((([("word" : Str), "state", "probability"]).map ustr).zip [wordP w0, R7244e.Spec.nat (endState R.t R.p w0), R7244e.Spec.ratP (wordProb R.g w0)]) = R7244e.Spec.wordRecord R.t R.g R.p w0 := by
        simp only [List.map_cons, List.map_nil, nm_word, nm_state, nm_probability]
        rfl
      rw [e] at p10
      refine q _ P r10 _ false (c03.trans (Chg.of_same s311)) ⟨false, E3.same s311, ⟨Nat.succ_pos _, rfl⟩, e1, e2, e4⟩ (SqT.of upd_same) ?_ ((p10.same s11).mono fun b hb => ?_)
      · show Outcome.step (wordRecord hh.chain hh.bias hh.start w0) false = _
        rw [e1, e2, e4]
      · rcases hb with hb | hb
        · exact ⟨hb.1, fun z => hb.2 (s10.free (s11.free z))⟩
        · exact ⟨n3 _ (s39.free hb.1), fun z => hb.2 (s11.free z)⟩

end
end SP

/-! ## X6 -/
set_option maxHeartbeats 4000000
namespace SP
open PySem PySem.Spec PyProof.Rows L2 SB
open SS (VC VG R Sz RateOk treeW ratesOf leadsTo)
open R7244e.Spec (reachable recurrentStates hasOneClass canMeet distribution wordProb endState coverage separation unstopped stopProbs survival entry target)
section
variable {P : Program} {w : World} {base : Heap}
variable {K : PySem.W.Frag} {mg : Str → Option Value}

open R7244e.Spec (wordP readWord Stage walkRecord wordRecord walkerNext walkerThrow Outcome yieldNext enumerationNext enumerationThrow collectFrom outcomeList continuableWords wordsOfLength)
theorem chg_in {M N : Addr → Prop} {H H1 H2 : Hp} (c1 : Chg M H H1) (c2 : Chg N H1 H2) (s : ∀ b, N b → M b ∨ H b = none) : Chg M H H2 := fun b o e n => c2 b o (c1 b o e n) fun z => by
  rcases s b z with h | h
  · exact n h
  · rw [e] at h; cases h
theorem next_live {hh : Enum} (h : hh.stage ≠ .finished) : enumerationNext hh = yieldNext hh hh.remaining := by
  unfold enumerationNext
  cases e : hh.stage with
  | notStarted => rfl
  | running l => rfl
  | finished => exact absurd e h
theorem next_fin {hh : Enum} (h : hh.stage = .finished) : enumerationNext hh = (hh, .step .undef true) := by
  unfold enumerationNext
  rw [h]
abbrev s_Enumeration_go_on : Stmt := inClass (topS 45) 2
theorem sc_Enumeration_go_on : FnScope ["self"] ["self"] (defScope s_Enumeration_go_on) := SB.sc_by (by decide +kernel)
theorem len_Enumeration_go_on {T : TX K mg} : ∀ vs H Q E, sp_Enumeration_go_on T vs H Q E → vs.length = (["self"] : List Str).length := by
  rintro _ H Q E ⟨_, _, _, _, _, _, _, rfl, _⟩
  rfl
theorem ok_Enumeration_go_on (T : TX K mg) (m_Enumeration_advance : SB.Met P w K mg base 4 T.Enumeration "advance" (sp_Enumeration_advance T)) (m_Nothing : SB.Mak P w K mg base 1 "Nothing" T.Nothing (sp_Nothing___init__ T))  {f : Addr} {fd : FuncData} (F : Fun K "go_on" "Enumeration.go_on" s_Enumeration_go_on f fd) : FnOk P w K mg base CX0 5 f fd ["self"] (sp_Enumeration_go_on T) := by
  refine F.ok sc_Enumeration_go_on len_Enumeration_go_on (fun cdv A outer s H vs Q E hr h => ⟨_, (pss_one (ps_ret (pe_ifExp (pt_val (SB.kFld (K := K) rfl (pv 0) rfl)) (pe_tup (pa_cons (SB.mak0 m_Nothing hr (by decide) rfl) (pa_cons pe_bl pa_nil))) (SB.met0 m_Enumeration_advance hr (by decide) (pv 0))))), ?_⟩)
  obtain ⟨v, a, cd, rr, R, hh, I, rfl, vr, hE, q⟩ := h
  obtain ⟨fi, hR, hst, e1, e2, e4⟩ := id hE
  obtain ⟨dx, r, rfl, ha, _⟩ := id hR
  refine ⟨_, rfl, a, T.Enumeration, _, _, _, rfl, ha, T.clEnumeration, T.nEnumeration_is_finished, lkEnumeration_is_finished, fi, rfl, ?_⟩
  cases fi with
  | true =>
    have es : hh.stage = .finished := by
      cases e : hh.stage with
      | notStarted => rw [e] at hst; cases hst.2
      | running l => rw [e] at hst; cases hst.2
      | finished => rfl
    rw [next_fin es] at q
    refine iteT fun x dx2 hx hdx nd => ⟨x, dx2, rfl, upd_same, fun H2 e c2 h2 => ⟨rfl, le_line (by show 2 ≤ _; decide), fun P hP => ?_⟩⟩
    have s2 := mk_same hx hdx c2
    have s3 := same_upd2 (o := .tup [.ref x, .bl true]) s2 (s2.free hP)
    exact q _ P (.ref x) .undef true (Chg.of_same s3) (hE.same s3) (SqT.of upd_same) rfl (.undef (upd_keep h2 hP))
  | false =>
    have es : hh.stage ≠ .finished := fun e => by rw [e] at hst; cases hst
    rw [next_live es] at q
    exact iteF ⟨_, rfl, a, _, _, rfl, ha, noEnumeration_advance, .ref a, a, cd, rr, R, hh, I, rfl, vr, hE, es, q⟩
abbrev s_Enumeration_finish : Stmt := inClass (topS 45) 4
theorem sc_Enumeration_finish : FnScope ["self", "value"] ["self", "value"] (defScope s_Enumeration_finish) := SB.sc_by (by decide +kernel)
theorem len_Enumeration_finish {T : TX K mg} : ∀ vs H Q E, sp_Enumeration_finish T vs H Q E → vs.length = (["self", "value"] : List Str).length := by
  rintro _ H Q E ⟨_, _, _, _, _, _, _, _, rfl, _⟩
  rfl
theorem ok_Enumeration_finish (T : TX K mg)   {f : Addr} {fd : FuncData} (F : Fun K "finish" "Enumeration.finish" s_Enumeration_finish f fd) : FnOk P w K mg base CX0 1 f fd ["self", "value"] (sp_Enumeration_finish T) := by
  refine F.ok sc_Enumeration_finish len_Enumeration_finish (fun cdv A outer s H vs Q E hr h => ⟨_, (pss_cons (ps_fld (pv 0) pe_bl rfl) (pss_one (ps_ret (pe_tup (pa_cons (pv 1) (pa_cons pe_bl pa_nil)))))), ?_⟩)
  obtain ⟨v, x, a, cd, rr, R, hh, I, rfl, ⟨fi, ⟨dx, r, rfl, ha, hR, hrr, nI, hlet, hlen⟩, hst, e1, e2, e4⟩, q⟩ := h
  refine ⟨_, rfl, a, T.Enumeration, dx, _, rfl, ha, T.clEnumeration, T.nEnumeration_is_finished, (show 5 < 1000 by decide), ?_⟩
  rw [pfEnumeration_is_finished]
  refine ⟨_, rfl, le_line (by show 2 ≤ _; decide), fun P hP => ?_⟩
  have s6 := same_upd (o := .tup [x, .bl true]) hP
  have c3 : Chg (· = a) H (upd H a (.ins T.Enumeration dx [("rule", r), ("remaining", .ref rr), ("many", intT hh.yielded), ("last", intT hh.lastLength), ("is_finished", .bl true)])) := chg1
  have E3 := EnR.put (T := T) ha hR hrr nI hlet hlen c3 upd_same
  exact q _ P (c3.trans (Chg.of_same s6)) ⟨true, E3.same s6, rfl, e1, e2, e4⟩ (SqT.of upd_same)
theorem readInt_num (a b : Nat) (i : Int) : R7244e.Spec.readInt a b (.num (some i)) = if ((a : Nat) : Int) ≤ i ∧ i ≤ ((b : Nat) : Int) then some i.toNat else none := rfl
theorem throwE_not {hh : Enum} {p : Plain} (h : ∀ l, hh.stage ≠ .running l) : enumerationThrow hh p = ({ hh with stage := .finished }, .thrown p) := by
  unfold enumerationThrow
  cases e : hh.stage with
  | notStarted => rfl
  | running l => exact absurd e (h l)
  | finished => rfl
theorem throwE_run {hh : Enum} {p : Plain} {l : Unit} (e : hh.stage = .running l) : enumerationThrow hh p = match R7244e.Spec.readInt (hh.lastLength + 1) 4 p with
    | some d => yieldNext hh (hh.remaining.filter fun w => decide (d ≤ w.length))
    | none => ({ hh with stage := .finished }, .thrown p) := by
  unfold enumerationThrow
  rw [e]
  cases R7244e.Spec.readInt (hh.lastLength + 1) 4 p <;> rfl
theorem readInt_not {a b : Nat} {p : Plain} (h : isNumP p = false) : R7244e.Spec.readInt a b p = none := by
  cases p <;> first | rfl | cases h
theorem two_al {H H' : Hp} {a rr : Addr} {o u : HO} (_ : Chg (Two a rr) H H') (h1 : H' a = some o) (h2 : H' rr = some u) : ∀ b, Two a rr b → H' b ≠ none := by
  rintro b (rfl | rfl)
  · rw [h1]; simp
  · rw [h2]; simp
abbrev s_Enumeration_signal : Stmt := inClass (topS 45) 3
theorem sc_Enumeration_signal : FnScope ["self", "value", "is_running", "own"] ["self", "value"] (defScope s_Enumeration_signal) := SB.sc_by (by decide +kernel)
theorem len_Enumeration_signal {T : TX K mg} : ∀ vs H Q E, sp_Enumeration_signal T vs H Q E → vs.length = (["self", "value"] : List Str).length := by
  rintro _ H Q E ⟨_, _, _, _, _, _, _, _, _, _, rfl, _⟩
  rfl
theorem ok_Enumeration_signal (T : TX K mg) (c_is_integer : SB.Cal P w K mg base 1 "is_integer" (sp_is_integer T)) (m_Enumeration_advance : SB.Met P w K mg base 4 T.Enumeration "advance" (sp_Enumeration_advance T))  {f : Addr} {fd : FuncData} (F : Fun K "signal" "Enumeration.signal" s_Enumeration_signal f fd) : FnOk P w K mg base CX0 5 f fd ["self", "value"] (sp_Enumeration_signal T) := by
  refine F.ok sc_Enumeration_signal len_Enumeration_signal (fun cdv A outer s H vs Q E hr h => ⟨_, (pss_cons (ps_set (i := 2) sc_Enumeration_signal.nd rfl (by first | exact Or.inl rfl | exact Or.inr rfl) (pe_and (pe_cmpR op_gt (SB.kFld (K := K) rfl (pv 0) rfl) pe_int (nomark _)) (pe_one (pe_not (SB.kFld (K := K) rfl (pv 0) rfl))))) (pss_cons (ps_if (PW.pt (pw_and (pt_val (pv 2)) (pw_and (pt_val (SB.cal c_is_integer hr (by decide) rfl (pa_cons (pv 1) pa_nil))) (pw_and1 (pt_chain op_lt op_le (SB.kFld (K := K) rfl (pv 0) rfl) (pv 1) (pe_glob (v := .int 4) rfl T.gMOST_LENGTH ⟨_, rfl⟩)))))) (pss_cons (ps_fld (pv 0) (pe_lc (own := [("own", 3)]) (g := (gName 3)) (by rfl) sc_Enumeration_signal.nd (SB.kPiL (K := K) rfl (SB.kFld (K := K) rfl (pv 0) rfl)) (blkOk_by (own := [("own", 3)]) (N := ["self", "value", "is_running", "own"]) (sc := (defScope s_Enumeration_signal)) (by decide +kernel)) (fun _ _ _ _ _ => (pg_name (i := 3) sc_Enumeration_signal.nd rfl (by first | exact Or.inl rfl | exact Or.inr rfl))) (fun _ _ _ _ _ => pts_one (pt_cmpR op_ge (pe_callB (SB.kLen (K := K) rfl) (by rfl) T.b_len PySem.boot_len (pa_cons (pv 3) pa_nil)) (pv 1) (nomark _))) (fun _ _ _ _ _ => (pv 3))) rfl) (pss_one (ps_ret (pe_op op_cat (pe_lst (pa_cons pe_str pa_nil)) (pe_callTy (SB.kListOf (K := K) rfl) (by rfl) T.b_list (by decide +kernel) (pa_cons (SB.met0 m_Enumeration_advance hr (by decide) (pv 0)) pa_nil)))))) pss_nil) (pss_cons (ps_fld (pv 0) pe_bl rfl) (pss_one (ps_ret (pe_lst (pa_cons pe_str (pa_cons (pv 1) pa_nil)))))))), ?_⟩)
  obtain ⟨v, x, p, a, cd, rr, R, hh, I, J, rfl, vr, hE, al, hp, nJ, q⟩ := h
  obtain ⟨fi, hER, hst, e1, e2, e4⟩ := id hE
  obtain ⟨dx, r, rfl, ha, hR, hrr, nI, hlet, hlen⟩ := id hER
  obtain ⟨ws, w1, w2⟩ := id hrr
  have toA : ∀ {Hx Hy : Hp}, Chg (· = a) Hx Hy → Chg (Two a rr) Hx Hy := fun c => c.mono fun b h => .inl h
  have thr : ∀ (L : Addr), enumerationThrow hh p = ({ hh with stage := .finished }, .thrown p) → upd H a (.ins T.Enumeration dx [("rule", r), ("remaining", .ref rr), ("many", intT hh.yielded), ("last", intT hh.lastLength), ("is_finished", .bl true)]) L = none → Q (.ref L) (upd (upd H a (.ins T.Enumeration dx [("rule", r), ("remaining", .ref rr), ("many", intT hh.yielded), ("last", intT hh.lastLength), ("is_finished", .bl true)])) L (.lst [.str "thrown", x])) := by
    intro L eN hL
    rw [eN] at q
    have c3 : Chg (· = a) H (upd H a (.ins T.Enumeration dx [("rule", r), ("remaining", .ref rr), ("many", intT hh.yielded), ("last", intT hh.lastLength), ("is_finished", .bl true)])) := chg1
    have E3 := EnR.put (T := T) ha hR hrr nI hlet hlen c3 upd_same
    have s6 := same_upd (o := .lst [.str "thrown", x]) hL
    refine q _ _ rr ((toA c3).trans (Chg.of_same s6)) (.inl rfl) ⟨true, E3.same s6, rfl, e1, e2, e4⟩ ⟨L, _, _, rfl, free_upd hL, (fun z => by rw [z] at hL; rw [free_upd hL] at w1; cases w1), upd_same, rfl, .cons (PlAt.pst ac_thrown nm_thrown) (.cons ?_ .nil)⟩ (two_al ((toA c3).trans (Chg.of_same s6)) (s6 _ _ upd_same) (s6 _ _ (c3 _ _ w1 (fun z => by rw [z, ha] at w1; cases w1))))
    have h1 := (hp.off (offIP ha (show 5 ≠ 1 by decide)) c3).same s6
    exact h1.keep (keeps_same (Same.refl _) fun b hb => ⟨.inl hb, fun z => nJ (z ▸ hb)⟩) (fun _ => rfl)
  refine ⟨_, rfl, a, T.Enumeration, _, _, _, rfl, ha, T.clEnumeration, T.nEnumeration_many, lkEnumeration_many, _, _, rfl, rfl, _, rfl, ?_⟩
  by_cases hrun : ∃ l, hh.stage = .running l
  · obtain ⟨l, es⟩ := hrun
    have hst2 := hst
    rw [es] at hst2
    obtain ⟨hm, rfl⟩ := (show 0 < hh.yielded ∧ fi = false from hst2)
    refine itT (decide_eq_true (by omega)) ⟨_, rfl, a, T.Enumeration, _, _, _, rfl, ha, T.clEnumeration, T.nEnumeration_is_finished, lkEnumeration_is_finished, _, rfl, _, rfl, _, rfl, itT rfl ⟨_, rfl, x, p, false, J, rfl, hp, _, rfl, ?_⟩⟩
    have eN := throwE_run (p := p) es
    refine ite2 (fun c1 => ?_) (fun c1 => ?_)
    · cases hp with
      | num i =>
        rw [readInt_num] at eN
        refine ⟨_, rfl, a, T.Enumeration, _, _, _, rfl, ha, T.clEnumeration, T.nEnumeration_last, lkEnumeration_last, _, rfl, _, _, rfl, rfl, _, rfl, ?_⟩
        -- the second half of the chain
        have half : ∀ k : Bool, k = (decide (((hh.lastLength : Nat) : Int) < i) && decide (i ≤ 4)) → ∃ k', V.bl k = V.bl k' ∧ k' = (decide (((hh.lastLength : Nat) : Int) < i) && decide (i ≤ 4)) := fun k e => ⟨k, rfl, e⟩
        refine ite2 (fun c2 => ?_) (fun c2 => ?_)
        · have c2 : ((hh.lastLength : Nat) : Int) < i := of_decide_eq_true c2
          refine ⟨_, _, rfl, rfl, _, rfl, ?_⟩
          refine ite2 (fun c3 => ?_) (fun c3 => ?_)
          · have c3 : i ≤ 4 := of_decide_eq_true c3
            rw [if_pos (by omega)] at eN
            simp only at eN
            obtain ⟨d, rfl⟩ : ∃ d : Nat, i = ((d : Nat) : Int) := ⟨i.toNat, by omega⟩
            rw [Int.toNat_natCast] at eN
            rw [eN] at q
            refine ⟨_, rfl, a, T.Enumeration, _, _, _, rfl, ha, T.clEnumeration, T.nEnumeration_remaining, lkEnumeration_remaining, rr, rfl, ⟨_, SqL.of w1⟩, fun D hD => ?_⟩
            have nDa : D ≠ a := fun z => by rw [z, ha] at hD; cases hD
            refine lc_list (K := K) (a := rr) (xs := ws) (fun j H3 => Same H H3 ∧ WdsAt (K := K) H3 D ((hh.remaining.take j).filter fun w => decide (d ≤ w.length))) ⟨same_upd hD, [], upd_same, .nil⟩ (fun j H3 _ ⟨s3, _⟩ => SqL.of (s3 _ _ w1)) ?_ ?_
            · rintro j xv H3 hxj ⟨s3, wl, l1, l2⟩
              obtain ⟨w, ew, hw⟩ := Paired.at w2 hxj
              have hw3 := hw.same s3
              obtain ⟨xa, rfl, hxa⟩ := id hw3
              refine ⟨rfl, _, rfl, xa, _, rfl, .inr hxa, _, rfl, _, _, rfl, rfl, _, rfl, ?_⟩
              have es := filter_snoc (fun w => decide (d ≤ w.length)) ew
              have et : decide (((d : Nat) : Int) ≤ (((w.map intT).length : Nat) : Int)) = decide (d ≤ w.length) := by
                rw [List.length_map, decide_eq_decide]
                omega
              refine ite2 (fun c => ?_) (fun c => ?_)
              · have c : decide (d ≤ w.length) = true := et ▸ c
                rw [if_pos c] at es
                refine ⟨_, rfl, wl, l1, ?_, same_upd2 s3 hD, ?_⟩
                · have hle : wl.length ≤ 31 := by
                    rw [Paired.length l2]
                    exact Nat.le_trans (List.length_filter_le _ _) (by rw [List.length_take]; omega)
                  exact lt_line (by omega)
                · rw [es]
                  exact ⟨_, upd_same, Paired.snoc (Paired.imp (fun _ _ h => WdAt.upd l1 h) l2) (WdAt.upd l1 hw3)⟩
              · have c : ¬ decide (d ≤ w.length) = true := fun z => c (et ▸ z)
                rw [if_neg c, List.append_nil] at es
                refine ⟨s3, ?_⟩
                rw [es]
                exact ⟨wl, l1, l2⟩
            · rintro H3 ⟨s3, hl⟩
              rw [List.take_of_length_le (by rw [Paired.length w2]; exact Nat.le_refl _)] at hl
              have h3a := s3 _ _ ha
              refine ⟨_, rfl, a, T.Enumeration, dx, _, rfl, h3a, T.clEnumeration, T.nEnumeration_remaining, (show 5 < 1000 by decide), ?_⟩
              rw [pfEnumeration_remaining]
              refine ⟨le_line (by show 1 ≤ _; decide), fun D1 hD1 => ?_⟩
              have c34 : Chg (· = a) H3 (upd H3 a (.ins T.Enumeration dx [("rule", r), ("remaining", .ref D), ("many", intT hh.yielded), ("last", intT hh.lastLength), ("is_finished", .bl false)])) := chg1
              have h4a : upd H3 a (.ins T.Enumeration dx [("rule", r), ("remaining", .ref D), ("many", intT hh.yielded), ("last", intT hh.lastLength), ("is_finished", .bl false)]) a = some (.ins T.Enumeration dx [("rule", r), ("remaining", .ref D), ("many", intT hh.yielded), ("last", intT hh.lastLength), ("is_finished", .bl false)]) := upd_same
              have n4 : ∀ b, upd H3 a (.ins T.Enumeration dx [("rule", r), ("remaining", .ref D), ("many", intT hh.yielded), ("last", intT hh.lastLength), ("is_finished", .bl false)]) b = none → H b = none := fun b h => s3.free (free_upd h)
              generalize upd H3 a (.ins T.Enumeration dx [("rule", r), ("remaining", .ref D), ("many", intT hh.yielded), ("last", intT hh.lastLength), ("is_finished", .bl false)]) = H4 at c34 h4a n4 hD1 ⊢
              have nID : ¬ I D := fun i => al D i hD
              have hlen2 : (hh.remaining.filter fun w => decide (d ≤ w.length)).length ≤ 31 := Nat.le_trans (List.length_filter_le _ _) hlen
              have E4 := EnR.put (T := T) (I := I) h3a (hR.same s3) hl nID (fun w hw => hlet w (List.mem_filter.mp hw).1) hlen2 c34 h4a
              have s45 : Same H4 (upd H4 D1 (.lst [.str "result"])) := same_upd hD1
              have h5D1 : upd H4 D1 (.lst [.str "result"]) D1 = some (.lst [.str "result"]) := upd_same
              generalize upd H4 D1 (.lst [.str "result"]) = H5 at s45 h5D1 ⊢
              have E5 := E4.same s45
              have h5a := s45 _ _ h4a
              have nD1a : D1 ≠ a := fun z => by rw [z, h4a] at hD1; cases hD1
              have nD1D : D1 ≠ D := fun z => by
                obtain ⟨_, _, _, _, _, ⟨_, d1, _⟩, _⟩ := E4
                rw [z, d1] at hD1
                cases hD1
              refine ⟨_, rfl, a, _, _, rfl, h5a, noEnumeration_advance, .ref a, a, cd, D, R, { hh with remaining := hh.remaining.filter fun w => decide (d ≤ w.length) }, I, rfl, vr, ⟨false, E5, hst, e1, e2, e4⟩, (fun z => by rw [es] at z; cases z), fun H6 tp o u f c6 E6 t6 eo po => ⟨tp, _, rfl, .inr t6, fun Z hZ => ⟨D1, Z, _, _, rfl, rfl, upd_keep (c6 _ _ h5D1 (fun z => by rcases z with z | z <;> contradiction)) hZ, upd_same, le_line (by show 3 ≤ _; decide), fun R9 hR9 => ?_⟩⟩⟩
              have s7 : Same H6 (upd H6 Z (.lst [o, .bl f])) := same_upd hZ
              have h6D1 := c6 _ _ h5D1 (fun z => by rcases z with z | z <;> contradiction)
              have s8 := same_upd2 (o := .lst ([.str "result"] ++ [o, .bl f])) s7 (s7.free hR9)
              have c05 : Chg (Two a rr) H H5 := ((Chg.of_same s3).trans (toA c34)).trans (Chg.of_same s45)
              have c06 : Chg (Two a rr) H H6 := chg_in c05 c6 fun b hb => by
                rcases hb with hb | hb
                · exact .inl (.inl hb)
                · exact .inr (hb ▸ hD)
              have c08 := c06.trans (Chg.of_same s8)
              have nR9 : H R9 = none := by
                have z6 := s7.free hR9
                cases e : H R9 with
                | none => rfl
                | some ob =>
                  by_cases ea : R9 = a
                  · obtain ⟨_, E6, _⟩ := E6
                    obtain ⟨_, _, _, h6a, _⟩ := E6
                    rw [ea, h6a] at z6
                    cases z6
                  · have er : R9 ≠ rr ∨ R9 = rr := by by_cases z : R9 = rr <;> simp [z]
                    rcases er with er | er
                    · rw [c06 _ _ e (fun z => by rcases z with z | z <;> contradiction)] at z6
                      cases z6
                    · have w6 : H6 rr = some (.lst ws) := by
                        have w3 := s3 _ _ w1
                        have nra : rr ≠ a := fun z => by rw [z, ha] at w1; cases w1
                        have nrD : rr ≠ D := fun z => by rw [z, hD] at w1; cases w1
                        exact c6 _ _ (s45 _ _ (c34 _ _ w3 nra)) (fun z => by rcases z with z | z <;> contradiction)
                      rw [er, w6] at z6
                      cases z6
              have eyn : yieldNext { hh with remaining := hh.remaining.filter fun w => decide (d ≤ w.length) } (hh.remaining.filter fun w => decide (d ≤ w.length)) = yieldNext hh (hh.remaining.filter fun w => decide (d ≤ w.length)) := by
                cases hh.remaining.filter fun w => decide (d ≤ w.length) <;> rfl
              have E6' := E6
              have eo' := eo
              rw [show ({ hh with remaining := hh.remaining.filter fun w => decide (d ≤ w.length) } : Enum).remaining = hh.remaining.filter fun w => decide (d ≤ w.length) from rfl, eyn] at E6' eo'
              obtain ⟨wsD, d4, _⟩ : ∃ wsD, H4 D = some (.lst wsD) ∧ True := by
                obtain ⟨_, _, _, _, _, ⟨_, d1, _⟩, _⟩ := E4
                exact ⟨_, d1, trivial⟩
              have nRD : R9 ≠ D := fun z => by
                obtain ⟨_, ⟨_, _, _, _, _, ⟨_, d6, _⟩, _⟩, _⟩ := E6
                rw [z, s7 _ _ d6] at hR9
                cases hR9
              refine q _ _ D c08 (.inr hD) (E6'.same s8) ⟨R9, _, _, rfl, nR9, nRD, upd_same, by rw [eo']; rfl, .cons (PlAt.pst ac_result nm_result) (.cons ((po.same s8).mono fun b hb => ⟨.inr ⟨n4 b (s45.free hb.1), fun z => hb.2 (s8.free z)⟩, fun z => ?nd⟩) (.cons (.bool f) .nil))⟩ ?tw
              case nd =>
                have hb1 := hb.1
                rw [z, s45 _ _ d4] at hb1
                cases hb1
              case tw =>
                have nra : rr ≠ a := fun z => by rw [z, ha] at w1; cases w1
                have nrD : rr ≠ D := fun z => by rw [z, hD] at w1; cases w1
                have w6 := c6 _ _ (s45 _ _ (c34 _ _ (s3 _ _ w1) nra)) (fun z => by rcases z with z | z <;> contradiction)
                obtain ⟨_, ⟨_, _, _, h6a, _⟩, _⟩ := E6
                exact two_al c08 (s8 _ _ h6a) (s8 _ _ w6)
          · have c3 : ¬ i ≤ 4 := fun z => c3 (decide_eq_true z)
            rw [if_neg (by omega)] at eN
            refine ⟨_, rfl, a, T.Enumeration, dx, _, rfl, ha, T.clEnumeration, T.nEnumeration_is_finished, (show 5 < 1000 by decide), ?_⟩
            rw [pfEnumeration_is_finished]
            exact ⟨_, rfl, le_line (by show 2 ≤ _; decide), fun L hL => thr L eN hL⟩
        · have c2 : ¬ ((hh.lastLength : Nat) : Int) < i := fun z => c2 (decide_eq_true z)
          rw [if_neg (by omega)] at eN
          refine ⟨_, rfl, itF rfl ⟨_, rfl, a, T.Enumeration, dx, _, rfl, ha, T.clEnumeration, T.nEnumeration_is_finished, (show 5 < 1000 by decide), ?_⟩⟩
          rw [pfEnumeration_is_finished]
          exact ⟨_, rfl, le_line (by show 2 ≤ _; decide), fun L hL => thr L eN hL⟩
      | undef h => cases c1
      | null => cases c1
      | bool y => cases c1
      | str h hq => cases c1
      | pstr s z c => cases z
      | arr i hq l => cases c1
      | obj h i hq l => cases c1
    · have c1 : isNumP p = false := by simpa using c1
      rw [readInt_not c1] at eN
      refine itF rfl ⟨_, rfl, a, T.Enumeration, dx, _, rfl, ha, T.clEnumeration, T.nEnumeration_is_finished, (show 5 < 1000 by decide), ?_⟩
      rw [pfEnumeration_is_finished]
      exact ⟨_, rfl, le_line (by show 2 ≤ _; decide), fun L hL => thr L eN hL⟩
  · have eN : enumerationThrow hh p = ({ hh with stage := .finished }, .thrown p) := throwE_not fun l e => hrun ⟨l, e⟩
    have last : ∀ {σ5 : L2.St}, σ5 = [some (.ref a), some x, some (.bl false), none] → (tSeq (sFld K (tVar 0) (tC (V.bl true)) "is_finished") (tRet (tLst (tCons (tC (V.str "thrown")) (tCons (tVar 1) tNil))))) { nx := fun _ H' => Q V.non H', rt := Q } σ5 H := by
      rintro σ5 rfl
      refine ⟨_, rfl, a, T.Enumeration, dx, _, rfl, ha, T.clEnumeration, T.nEnumeration_is_finished, (show 5 < 1000 by decide), ?_⟩
      rw [pfEnumeration_is_finished]
      exact ⟨_, rfl, le_line (by show 2 ≤ _; decide), fun L hL => thr L eN hL⟩
    refine ite2 (fun c => ?_) (fun c => ?_)
    · have c : (0 : Int) < ((hh.yielded : Nat) : Int) := of_decide_eq_true c
      have efi : fi = true := by
        cases e : hh.stage with
        | notStarted => rw [e] at hst; have := hst.1; omega
        | running l => exact absurd ⟨l, e⟩ hrun
        | finished => rw [e] at hst; exact hst
      subst efi
      exact ⟨_, rfl, a, T.Enumeration, _, _, _, rfl, ha, T.clEnumeration, T.nEnumeration_is_finished, lkEnumeration_is_finished, _, rfl, _, rfl, _, rfl, itF rfl (itF rfl (last rfl))⟩
    · exact ⟨_, rfl, _, rfl, itF rfl (itF rfl (last rfl))⟩

end
end SP

/-! ## X7 -/
set_option maxHeartbeats 4000000
namespace SP
open PySem PySem.Spec PyProof.Rows L2 SB
open SS (VC VG R Sz RateOk treeW ratesOf leadsTo)
open R7244e.Spec (reachable recurrentStates hasOneClass canMeet distribution wordProb endState coverage separation unstopped stopProbs survival entry target)
section
variable {P : Program} {w : World} {base : Heap}
variable {K : PySem.W.Frag} {mg : Str → Option Value}

open R7244e.Spec (wordP readWord Stage walkRecord wordRecord walkerNext walkerThrow Outcome yieldNext enumerationNext enumerationThrow collectFrom outcomeList continuableWords wordsOfLength)
def finS (s : Stage Unit) : Bool := match s with
  | .finished => true
  | _ => false
theorem StE.fi {s : Stage Unit} {many : Nat} {fi : Bool} (h : StE s many fi) : fi = finS s := by
  cases s with
  | notStarted => exact h.2
  | running l => exact h.2
  | finished => exact h
theorem coll_fin {hh : Enum} (h : finS hh.stage = true) : ∀ n, collectFrom n hh = (hh, [])
  | 0 => rfl
  | n + 1 => by
    have es : hh.stage = .finished := by
      cases e : hh.stage with
      | notStarted => rw [e] at h; cases h
      | running l => rw [e] at h; cases h
      | finished => rfl
    unfold collectFrom
    rw [next_fin es]
theorem coll_step {hh : Enum} {u : Plain} {n : Nat} (h : finS hh.stage = false) (e : (yieldNext hh hh.remaining).2 = .step u false) : collectFrom (n + 1) hh = ((collectFrom n (yieldNext hh hh.remaining).1).1, u :: (collectFrom n (yieldNext hh hh.remaining).1).2) := by
  have es : hh.stage ≠ .finished := fun z => by rw [z] at h; cases h
  unfold collectFrom
  rw [next_live es]
  generalize yieldNext hh hh.remaining = z at e ⊢
  obtain ⟨z1, z2⟩ := z
  cases e
  cases n <;> rfl
theorem coll_end {hh : Enum} {u : Plain} {n : Nat} (h : finS hh.stage = false) (e : (yieldNext hh hh.remaining).2 = .step u true) : collectFrom (n + 1) hh = ((yieldNext hh hh.remaining).1, []) := by
  have es : hh.stage ≠ .finished := fun z => by rw [z] at h; cases h
  unfold collectFrom
  rw [next_live es]
  generalize yieldNext hh hh.remaining = z at e ⊢
  obtain ⟨z1, z2⟩ := z
  cases e
  rfl
theorem yn_false {hh : Enum} {u : Plain} (e : (yieldNext hh hh.remaining).2 = .step u false) : (yieldNext hh hh.remaining).1.remaining.length + 1 = hh.remaining.length ∧ finS (yieldNext hh hh.remaining).1.stage = false := by
  cases h : hh.remaining with
  | nil => rw [h] at e; cases e
  | cons w s => exact ⟨rfl, rfl⟩
theorem yn_true {hh : Enum} {u : Plain} (e : (yieldNext hh hh.remaining).2 = .step u true) : finS (yieldNext hh hh.remaining).1.stage = true ∧ (yieldNext hh hh.remaining).1.remaining.length ≤ hh.remaining.length := by
  cases h : hh.remaining with
  | nil => exact ⟨rfl, Nat.le_refl _⟩
  | cons w s => rw [h] at e; cases e
theorem EnAt.updL {T : TX K mg} {I : Addr → Prop} {H : Hp} {v : V} {a cd rr D : Addr} {R : Ru} {h : Enum} {xs zs : List V} (q : EnAt T I H v a cd rr R h) (hD : H D = some (.lst xs)) (nI : ¬ I D) (n : rr ≠ D) : EnAt T I (upd H D (.lst zs)) v a cd rr R h := by
  obtain ⟨fi, ⟨dx, r, e, ha, hR, hrr, h3⟩, h2⟩ := q
  have oR : OffR T (· = D) I H := { offL hD nI with ins := fun b C dx fs e z => by subst e; rw [hD] at z; cases z }
  have na : a ≠ D := fun z => by rw [z, hD] at ha; cases ha
  have nc : cd ≠ D := fun z => by
    obtain ⟨kvs, hc⟩ := hR.cd
    rw [z, hD] at hc
    cases hc
  exact ⟨fi, ⟨dx, r, e, by rw [upd_ne na]; exact ha, hR.off oR nc chg1, hrr.upd hD n, h3⟩, h2⟩
abbrev s_Enumeration_collect : Stmt := inClass (topS 45) 5
theorem sc_Enumeration_collect : FnScope ["self", "told", "value", "is_done"] ["self"] (defScope s_Enumeration_collect) := SB.sc_by (by decide +kernel)
theorem len_Enumeration_collect {T : TX K mg} : ∀ vs H Q E, sp_Enumeration_collect T vs H Q E → vs.length = (["self"] : List Str).length := by
  rintro _ H Q E ⟨_, _, _, _, _, _, _, rfl, _⟩
  rfl
theorem ok_Enumeration_collect (T : TX K mg) (m_Enumeration_advance : SB.Met P w K mg base 4 T.Enumeration "advance" (sp_Enumeration_advance T))  {f : Addr} {fd : FuncData} (F : Fun K "collect" "Enumeration.collect" s_Enumeration_collect f fd) : FnOk P w K mg base CX0 5 f fd ["self"] (sp_Enumeration_collect T) := by
  refine F.ok sc_Enumeration_collect len_Enumeration_collect (fun cdv A outer s H vs Q E hr h => ⟨_, (pss_cons (ps_set (i := 1) sc_Enumeration_collect.nd rfl (by first | exact Or.inl rfl | exact Or.inr rfl) (pe_lst pa_nil)) (pss_cons (ps_while (by first | exact PassesOwn.never | exact passes_of rfl) (pt_not (pt_val (SB.kFld (K := K) rfl (pv 0) rfl))) (pss_cons (ps_asg (SB.met0 m_Enumeration_advance hr (by decide) (pv 0)) (pg_tup (by rfl) (pgs_cons (pg_name (i := 2) sc_Enumeration_collect.nd rfl (by first | exact Or.inl rfl | exact Or.inr rfl)) (pgs_cons (pg_name (i := 3) sc_Enumeration_collect.nd rfl (by first | exact Or.inl rfl | exact Or.inr rfl)) pgs_nil)))) (pss_one (ps_if (pt_not (pt_val (pv 3))) (pss_one (ps_expr (pe_bm PySem.F.plainAttrs_list PySem.F.slot_list_append PySem.F.type_list_append mt_append (pv 1) (pa_cons (pv 2) pa_nil)))) pss_nil)))) (pss_one (ps_ret (pv 1))))), ?_⟩)
  obtain ⟨v, a, cd, rr, R, hh, I, rfl, vr, hE, al, q⟩ := h
  obtain ⟨fi, hER, hst, e1, e2, e4⟩ := id hE
  obtain ⟨dx, r, rfl, ha, hR, hrr, nI, hlet, hlen⟩ := id hER
  obtain ⟨ws, w1, w2⟩ := id hrr
  refine ⟨le_line (by show 0 ≤ _; decide), fun D hD => ?_⟩
  have nDa : D ≠ a := fun z => by rw [z, ha] at hD; cases hD
  have nDr : D ≠ rr := fun z => by rw [z, w1] at hD; cases hD
  refine ⟨fun m σ H' => ∃ (hk : Enum) (L : List Plain) (ms : List V) (n : Nat) (o2 o3 : Option V), σ = [some (.ref a), some (.ref D), o2, o3] ∧ Chg (Two a rr) H H' ∧ EnAt T I H' (.ref a) a cd rr R hk ∧ H' D = some (.lst ms) ∧ PlsAt T (fun b => FreshA H H' b ∧ b ≠ D) H' true ms L ∧
      hk.remaining.length < n ∧ collectFrom 40 hh = ((collectFrom n hk).1, L ++ (collectFrom n hk).2) ∧ m = hk.remaining.length * 2 + (if finS hk.stage = true then 0 else 1) ∧ L.length + hk.remaining.length ≤ 31,
    ⟨_, hh, [], [], 40, none, none, rfl, Chg.of_same (same_upd hD), hE.same (same_upd hD), upd_same, .nil, by omega, rfl, rfl, by rw [List.length_nil]; omega⟩, ?_⟩
  rintro m σ H1 ⟨hk, L, ms, n, o2, o3, rfl, c1, E1, h1, p1, hn, ec, rfl, hl⟩
  obtain ⟨fk, EK, stk, k1, k2, k4⟩ := id E1
  obtain ⟨dxk, rk, _, hak, hRk, hrrk, _⟩ := id EK
  have efk := stk.fi
  refine ⟨_, rfl, a, T.Enumeration, _, _, _, rfl, hak, T.clEnumeration, T.nEnumeration_is_finished, lkEnumeration_is_finished, _, rfl, ?_⟩
  cases hfk : finS hk.stage with
  | true =>
    rw [hfk] at efk
    subst efk
    refine iteF ?_
    rw [coll_fin hfk, List.append_nil] at ec
    refine ⟨_, rfl, q H1 _ c1 (by rw [ec]; exact E1) ?_⟩
    rw [ec]
    exact .arr ⟨hD, by rw [h1]; simp⟩ (SqL.of h1) (p1.mono fun b hb => hb.1)
  | false =>
    rw [hfk] at efk
    subst efk
    have es : hk.stage ≠ .finished := fun z => by rw [z] at hfk; cases hfk
    refine iteT ⟨fun σ' H' => ∃ m', m' < hk.remaining.length * 2 + 1 ∧ ∃ (hk : Enum) (L : List Plain) (ms : List V) (n : Nat) (o2 o3 : Option V), σ' = [some (.ref a), some (.ref D), o2, o3] ∧ Chg (Two a rr) H H' ∧ EnAt T I H' (.ref a) a cd rr R hk ∧ H' D = some (.lst ms) ∧ PlsAt T (fun b => FreshA H H' b ∧ b ≠ D) H' true ms L ∧
      hk.remaining.length < n ∧ collectFrom 40 hh = ((collectFrom n hk).1, L ++ (collectFrom n hk).2) ∧ m' = hk.remaining.length * 2 + (if finS hk.stage = true then 0 else 1) ∧ L.length + hk.remaining.length ≤ 31, fun σ' H' ⟨m', h1, h2⟩ => ⟨m', by rw [if_neg (by decide)]; exact h1, h2⟩, _, rfl, a, _, _, rfl, hak, noEnumeration_advance, .ref a, a, cd, rr, R, hk, I, rfl, vr, E1, es, fun H2 tp o u f c2 E2 t2 eo po => ⟨tp, _, rfl, t2, rfl, _, _, rfl, _, _, rfl, rfl, _, rfl, _, rfl, ?_⟩⟩
    have h2 := c2 _ _ h1 (fun z => by rcases z with z | z <;> contradiction)
    have c02 := c1.trans c2
    obtain ⟨f2, ER2, _⟩ := id E2
    obtain ⟨dx2, r2, _, ha2, hR2, ⟨ws2, w21, _⟩, nI2, _⟩ := id ER2
    obtain ⟨wsk, wk1, _⟩ := hrrk
    have bck : ∀ b, H2 b = none → H1 b = none := by
      intro b z
      cases e : H1 b with
      | none => rfl
      | some ob =>
        by_cases ea : b = a
        · rw [ea, ha2] at z; cases z
        · by_cases er : b = rr
          · rw [er, w21] at z; cases z
          · rw [c2 _ _ e (fun z => by rcases z with z | z <;> contradiction)] at z
            cases z
    have bk0 : ∀ b, H1 b = none → H b = none := by
      intro b z
      cases e : H b with
      | none => rfl
      | some ob =>
        by_cases ea : b = a
        · rw [ea, hak] at z; cases z
        · by_cases er : b = rr
          · rw [er, wk1] at z; cases z
          · rw [c1 _ _ e (fun z => by rcases z with z | z <;> contradiction)] at z
            cases z
    have oP : OffP (Two a rr) (fun b => FreshA H H1 b ∧ b ≠ D) H1 := by
      refine ⟨⟨?_, ?_, ?_⟩, ?_⟩
      · intro b xs hb z
        rcases hb with rfl | rfl
        · rw [hak] at z; cases z
        · rw [wk1] at z; cases z
      · intro b o u hb z
        rcases hb with rfl | rfl
        · rw [hak] at z; cases z
        · rw [wk1] at z; cases z
      · intro b xs hb i z
        rcases hb with rfl | rfl
        · rw [hak] at z; cases z
        · have := i.1.1
          rw [w1] at this
          cases this
      · intro b C dx f v hb z
        rcases hb with rfl | rfl
        · rw [hak] at z
          have := congrArg (fun o => match o with | some (HO.ins _ _ fs) => fs.length | _ => 0) z
          simp at this
        · rw [wk1] at z; cases z
    have p2 : PlsAt T (fun b => FreshA H H2 b ∧ b ≠ D) H2 true ms L := (p1.off oP c2).mono fun b hb => ⟨⟨hb.1.1, fun z => hb.1.2 (bck b z)⟩, hb.2⟩
    obtain ⟨n', rfl⟩ : ∃ n', n = n' + 1 := ⟨n - 1, by omega⟩
    cases f with
    | true =>
      obtain ⟨y1, y2⟩ := yn_true eo
      rw [coll_end hfk eo, List.append_nil] at ec
      refine iteF ⟨_, ?_, _, L, ms, (yieldNext hk hk.remaining).1.remaining.length + 1, some o, some (.bl true), rfl, c02, E2, h2, p2, by omega, ?_, rfl, ?_⟩
      · rw [if_pos y1]
        omega
      · rw [coll_fin y1, List.append_nil, ec]
      · omega
    | false =>
      obtain ⟨y1, y2⟩ := yn_false eo
      rw [coll_step hfk eo] at ec
      have pl := p2.len
      refine iteT ⟨_, rfl, .inl ⟨rfl, _, SqL.of h2⟩, _, rfl, D, ms, o, rfl, rfl, h2, lt_line (by omega), _, ?_, (yieldNext hk hk.remaining).1, L ++ [u], ms ++ [o], n', some o, some (.bl false), rfl, chg_upd c02 (.inl hD), ?_, upd_same, ?_, by omega, ?_, rfl, ?_⟩
      · rw [if_neg (by rw [y2]; decide)]
        omega
      · exact E2.updL h2 (fun i => al D i hD) nDr.symm
      · have p3 : PlsAt T (fun b => FreshA H H2 b ∧ b ≠ D) H2 true (ms ++ [o]) (L ++ [u]) := p2.snoc (po.mono fun b hb => ⟨⟨bk0 b hb.1, hb.2⟩, fun z => by rw [z] at hb; exact absurd hb.1 (by rw [h1]; simp)⟩)
        exact PlsAt.keep (keeps_upd h2 (fun b hb => ⟨⟨hb.1.1, fun z => hb.1.2 (free_upd z)⟩, hb.2⟩) (fun b hb => hb.2)) (fun z => z) p3
      · rw [ec, List.append_assoc]
        rfl
      · rw [List.length_append]
        show L.length + 1 + _ ≤ 31
        omega

end
end SP

/-! ## D1 -/
set_option maxHeartbeats 4000000
namespace SP
open PySem PySem.Spec PyProof.Rows L2 SB
open SS (VC VG R Sz RateOk treeW ratesOf leadsTo)
open R7244e.Spec (reachable recurrentStates hasOneClass canMeet distribution wordProb endState coverage separation unstopped stopProbs survival entry target)
section
variable {P : Program} {w : World} {base : Heap}
variable {K : PySem.W.Frag} {mg : Str → Option Value}

/-- what the written part says of the class Refused -/
structure TR (T : TX K mg) : Prop where
  oex : OexC K T.Refused
  nk : PySem.W.findIn K (.ref T.Refused) "kind" = some none
  nm : PySem.W.findIn K (.ref T.Refused) "message" = some none
  xf : XfC K T.Refused
  exm : PySem.W.exmOne K (.ref T.Refused) (.ref T.Refused) = some true
def sp_Refused___init__ (T : TX K mg) : Sp := fun vs H Q _ => ∃ (a : Addr) (k m : V), vs = [.ref a, k, m] ∧ H a = some (exo a T.Refused none) ∧ ∀ dx, H dx = none → dx ≠ a → Q .non (upd (upd (upd H dx (exd dx [("kind", k)])) a (exo a T.Refused (some dx))) dx (exd dx [("message", m), ("kind", k)]))
abbrev s_Refused___init__ : Stmt := inClass (topS 22) 0
theorem sc_Refused___init__ : FnScope ["self", "kind", "message"] ["self", "kind", "message"] (defScope s_Refused___init__) := SB.sc_by (by decide +kernel)
theorem len_Refused___init__ {T : TX K mg} : ∀ vs H Q E, sp_Refused___init__ T vs H Q E → vs.length = (["self", "kind", "message"] : List Str).length := by
  rintro _ H Q E ⟨_, _, _, rfl, _⟩
  rfl
theorem exo_inj {e C : Addr} {d d' : Option Addr} {H : Hp} (h : H e = some (exo e C d)) : True := trivial
theorem ok_Refused___init__ (T : TX K mg) (TF : TR T) {f : Addr} {fd : FuncData} (F : Fun K "__init__" "Refused.__init__" s_Refused___init__ f fd) : FnOk P w K mg base CX0 1 f fd ["self", "kind", "message"] (sp_Refused___init__ T) := by
  refine F.ok sc_Refused___init__ len_Refused___init__ (fun cdv A outer s H vs Q E hr h => ⟨_, (pss_cons (ps_ost (pv 0) (pv 1)) (pss_one (ps_ost (pv 0) (pv 2)))), ?_⟩)
  obtain ⟨a, k, m, rfl, ha, q⟩ := h
  refine ⟨_, rfl, _, rfl, a, T.Refused, rfl, TF.oex, TF.nk, .inl ⟨ha, fun dx hd nd => ?_⟩⟩
  refine ⟨_, rfl, _, rfl, a, T.Refused, rfl, TF.oex, TF.nm, .inr ⟨dx, [("kind", k)], upd_same, ?_, (show 1 ≤ 900 by decide), q dx hd nd⟩⟩
  rw [upd_ne nd, upd_same]
structure ExcMk (P : Program) (w : World) (K : PySem.W.Frag) (mg : Str → Option Value) (base : Heap) (k : Nat) (C : Addr) (sp : Sp) : Prop where
  ex : ∃ (fI : Addr) (fd : FuncData) (ps : List Str), PySem.W.findIn K (.ref C) "__init__" = some (some (.ref fI)) ∧ PySem.W.typeIn K (.ref fI) = some (.type "function") ∧ FnOk P w K mg base CX0 k fI fd ps sp ∧ L2.Binds K fd ps []
abbrev s_refuse : Stmt := topS 23
theorem sc_refuse : FnScope ["kind", "message"] ["kind", "message"] (defScope s_refuse) := SB.sc_by (by decide +kernel)
theorem len_refuse {T : TX K mg} : ∀ vs H Q E, sp_refuse T vs H Q E → vs.length = (["kind", "message"] : List Str).length := by
  rintro _ H Q E ⟨_, _, rfl, _⟩
  rfl
theorem ok_refuse (T : TX K mg) (TF : TR T) (m_Refused : ExcMk P w K mg base 1 T.Refused (sp_Refused___init__ T)) {f : Addr} {fd : FuncData} (F : Fun K "refuse" "refuse" s_refuse f fd) : FnOk P w K mg base (L2N.CX P w) 3 f fd ["kind", "message"] (sp_refuse T) := by
  obtain ⟨fI, fdI, psI, i1, i2, i3, i4⟩ := m_Refused.ex
  refine SB.okN F sc_refuse len_refuse (fun cdv A outer s H vs Q E hr h => ⟨_, (pss_one (L2N.ps_raise rfl (L2N.takes_of rfl rfl rfl rfl) (SB.pmk_oexN TF.oex i1 i2 i3 (hr.mono (by decide)) i4 pass0 rfl T.gRefused (pa_cons (pv 0) (pa_cons (pv 1) pa_nil))))), ?_⟩)
  obtain ⟨k, m, rfl, q⟩ := h
  refine ⟨_, rfl, _, rfl, (show 2 ≤ 1000 by decide), fun a ha => ?_⟩
  refine ⟨a, _, _, rfl, upd_same, fun dx hd nd => ⟨rfl, dx, [("message", .str m), ("kind", .int k)], ?_, upd_same, ?_, ?_⟩⟩
  · rw [upd_ne nd.symm, upd_same]
  · rw [upd_ne nd] at hd
    exact hd
  · rw [upd_ne nd] at hd
    refine q _ dx (fun b u e => ?_) upd_same
    have n1 := ne_of_none e ha
    have n2 := ne_of_none e hd
    rw [upd_ne n2, del_ne n1, upd_ne n2, upd_ne n1, upd_ne n2, upd_ne n1]
    exact e

end
end SP

/-! ## SP7 -/
set_option maxHeartbeats 4000000
namespace SP
open PySem PySem.Spec PyProof.Rows L2 SB
open SS (VC VG R Sz RateOk treeW ratesOf leadsTo)
abbrev Err := R7244e.Spec.Err
section
variable {K : PySem.W.Frag} {mg : Str → Option Value} (T : TX K mg)
/-- the dict of a refusal -/
def ErrAt (H : Hp) (d : Addr) (e : Err) : Prop := ∃ (m : Str) (k : Nat), H d = some (.xd [("message", .str m), ("kind", intT k)]) ∧ asc m ∧ m.cps.size ≤ 1000 ∧ ustr m = e.msg ∧ k = Rust.classOf e.cls
def Fails (E : XK) (H : Hp) (e : Err) : Prop := ∀ H' d, Same H H' → ErrAt H' d e → E (.ref T.Refused) (some d) H'
/-- the arguments of a door -/
def ArgsAt (I : Addr → Prop) (H : Hp) (aa : Addr) (l : List Plain) : Prop := ∃ avs, SqL K H aa avs ∧ PlsAt T I H false avs l
def sp_is_state_number : Sp := fun vs H Q _ => ∃ (v : V) (p : Plain) (many : Nat) (I : Addr → Prop), vs = [v, intT many] ∧ PlAt T I H false v p ∧ 1 ≤ many ∧ Q (.bl (R7244e.Spec.readInt 0 (many - 1) p).isSome) H
def sp_chain_in : Sp := fun vs H Q E => ∃ (v : V) (p : Plain) (I : Addr → Prop), vs = [v] ∧ PlAt T I H false v p ∧ (∀ t, R7244e.Spec.readChain p = .ok t → ∀ H', Same H H' → Q v H') ∧ (∀ e, R7244e.Spec.readChain p = .error e → Fails T E H e)
/-- a fraction with a denominator of at most so much -/
def isFr (most : Nat) : Plain → Bool
  | .arr [.num (some i), .num (some n)] => decide (0 ≤ i ∧ 1 ≤ n ∧ n ≤ (most : Nat) ∧ Nat.gcd i.toNat n.toNat = 1)
  | _ => false
def sp_is_fraction : Sp := fun vs H Q _ => ∃ (v : V) (p : Plain) (most : Nat) (I : Addr → Prop), vs = [v, intT most] ∧ PlAt T I H false v p ∧ ∀ H', Same H H' → Q (.bl (isFr most p)) H'
def sp_told_fractions : Sp := fun vs H Q _ => ∃ (v : V) (xs : List Rat) (I : Addr → Prop), vs = [v] ∧ FrsAt K I H v xs ∧ xs.length ≤ 3 ∧ ∀ H' r, Same H H' → PlAt T (FreshA H H') H' true r (R7244e.Spec.ratsP xs) → Q r H'
def readCB (x y : Plain) : R7244e.Spec.Res (Chain × Bias) := R7244e.Spec.withChain x y fun t g => .ok (t, g)
def readCS (x y z : Plain) : R7244e.Spec.Res (Chain × Bias × Nat) := R7244e.Spec.withChain x y fun t g => R7244e.Spec.andThen (R7244e.Spec.readStart "start" t z) fun p => .ok (t, g, p)
def readRu (x y z : Plain) : R7244e.Spec.Res Ru := R7244e.Spec.withStationary x y z fun t g l p => .ok ⟨t, g, l, p⟩
def sp_drawn_in : Sp := fun vs H Q E => ∃ (aa : Addr) (x y : Plain) (l : List Plain) (I : Addr → Prop), vs = [.ref aa] ∧ ArgsAt T I H aa (x :: y :: l) ∧
  (∀ t g, readCB x y = .ok (t, g) → ∀ H' r, Same H H' → DrAt T (New I H H') H' r t g → Q r H') ∧ (∀ e, readCB x y = .error e → Fails T E H e)
def sp_started_in : Sp := fun vs H Q E => ∃ (aa : Addr) (x y z : Plain) (l : List Plain) (I : Addr → Prop), vs = [.ref aa] ∧ ArgsAt T I H aa (x :: y :: z :: l) ∧
  (∀ t g p, readCS x y z = .ok (t, g, p) → ∀ H' r, Same H H' → DrAt T (New I H H') H' r t g → Q r H') ∧ (∀ e, readCS x y z = .error e → Fails T E H e)
def sp_rule_in : Sp := fun vs H Q E => ∃ (aa : Addr) (x y z : Plain) (l : List Plain) (I : Addr → Prop), vs = [.ref aa] ∧ ArgsAt T I H aa (x :: y :: z :: l) ∧
  (∀ R, readRu x y z = .ok R → ∀ H' r cd, Same H H' → H cd = none → RuAt T (New I H H') H' r cd R → Q r H') ∧ (∀ e, readRu x y z = .error e → Fails T E H e)
def stepsMsg (name : String) (most : Nat) : String := name ++ " must be an integer from " ++ toString 0 ++ " to " ++ toString most
def sp_check_steps : Sp := fun vs H Q E => ∃ (v : V) (p : Plain) (name : String) (most : Nat) (I : Addr → Prop), vs = [v, .str (Str.ofString name), intT most] ∧ PlAt T I H false v p ∧ ((name = "steps" ∧ most = 8) ∨ (name = "maxLength" ∧ most = 4)) ∧
  (∀ n, R7244e.Spec.readNumber name 0 most p = .ok n → Q .non H) ∧ (∀ e, R7244e.Spec.readNumber name 0 most p = .error e → Fails T E H e)
def sp_rule_with_steps : Sp := fun vs H Q E => ∃ (aa : Addr) (x y z u : Plain) (l : List Plain) (I : Addr → Prop), vs = [.ref aa] ∧ ArgsAt T I H aa (x :: y :: z :: u :: l) ∧
  (∀ R n, readRu x y z = .ok R → R7244e.Spec.readNumber "steps" 0 8 u = .ok n → ∀ H' r cd, Same H H' → H cd = none → RuAt T (New I H H') H' r cd R → Q r H') ∧ (∀ e, (readRu x y z = .error e ∨ ∃ R, readRu x y z = .ok R ∧ R7244e.Spec.readNumber "steps" 0 8 u = .error e) → Fails T E H e)
def sp_value_done : Sp := fun vs H Q _ => ∃ (tp : Addr) (o : V) (p : Plain) (f : Bool) (J : Addr → Prop), vs = [.ref tp] ∧ SqT K H tp [o, .bl f] ∧ PlAt T J H true o p ∧ Al J H ∧ ∀ H' r, Same H H' → PlAt T (New J H H') H' true r (R7244e.Spec.iteratorResult p f) → Q r H'
end
end SP

/-! ## D2 -/
set_option maxHeartbeats 4000000
namespace SP
open PySem PySem.Spec PyProof.Rows L2 SB
open SS (VC VG R Sz RateOk treeW ratesOf leadsTo)
open R7244e.Spec (reachable recurrentStates hasOneClass canMeet distribution wordProb endState coverage separation unstopped stopProbs survival entry target)
section
variable {P : Program} {w : World} {base : Heap}
variable {K : PySem.W.Frag} {mg : Str → Option Value}

open R7244e.Spec (readInt readState readChain readAll readNumber)
theorem refuse_at {T : TX K mg} {E : XK} {H : Hp} {e : Err} {m : Str} {k : Nat} (f : Fails T E H e) (ha : asc m) (hz : m.cps.size ≤ 1000) (hm : ustr m = e.msg) (hk : k = Rust.classOf e.cls) {H' : Hp} {d : Addr} (s : Same H H') (h : H' d = some (.xd [("message", .str m), ("kind", intT k)])) : E (.ref T.Refused) (some d) H' := f H' d s ⟨m, k, h, ha, hz, hm, hk⟩
theorem readInt_not0 {a b : Nat} {p : Plain} (h : isNumP p = false) : readInt a b p = none := by
  cases p <;> first | rfl | cases h
abbrev s_is_state_number : Stmt := topS 50
theorem sc_is_state_number : FnScope ["value", "many"] ["value", "many"] (defScope s_is_state_number) := SB.sc_by (by decide +kernel)
theorem len_is_state_number {T : TX K mg} : ∀ vs H Q E, sp_is_state_number T vs H Q E → vs.length = (["value", "many"] : List Str).length := by
  rintro _ H Q E ⟨_, _, _, _, rfl, _⟩
  rfl
theorem ok_is_state_number (T : TX K mg) (c_is_integer : SB.Cal P w K mg base 1 "is_integer" (sp_is_integer T))  {f : Addr} {fd : FuncData} (F : Fun K "is_state_number" "is_state_number" s_is_state_number f fd) : FnOk P w K mg base CX0 2 f fd ["value", "many"] (sp_is_state_number T) := by
  refine F.ok sc_is_state_number len_is_state_number (fun cdv A outer s H vs Q E hr h => ⟨_, (pss_one (ps_ret (pe_and (SB.cal c_is_integer hr (by decide) rfl (pa_cons (pv 0) pa_nil)) (pe_one (pe_chain op_le op_lt pe_int (pv 0) (pv 1)))))), ?_⟩)
  obtain ⟨v, p, many, I, rfl, hp, hm, q⟩ := h
  refine ⟨_, rfl, v, p, false, I, rfl, hp, _, rfl, ?_⟩
  refine ite2 (fun c1 => ?_) (fun c1 => ?_)
  · cases hp with
    | num i =>
      have e0 : readInt 0 (many - 1) (.num (some i)) = if ((0 : Nat) : Int) ≤ i ∧ i ≤ ((many - 1 : Nat) : Int) then some i.toNat else none := rfl
      rw [e0] at q
      refine ⟨_, rfl, _, _, rfl, rfl, _, rfl, ?_⟩
      refine ite2 (fun c2 => ?_) (fun c2 => ?_)
      · have c2 : 0 ≤ i := of_decide_eq_true c2
        refine ⟨_, rfl, _, _, rfl, rfl, ?_⟩
        have e : (if ((0 : Nat) : Int) ≤ i ∧ i ≤ ((many - 1 : Nat) : Int) then some i.toNat else none).isSome = decide (i < ((many : Nat) : Int)) := by
          by_cases h : i < ((many : Nat) : Int)
          · rw [if_pos (by omega), decide_eq_true h]
            rfl
          · rw [if_neg (by omega), decide_eq_false h]
            rfl
        rw [e] at q
        exact q
      · have c2 : ¬ 0 ≤ i := fun z => c2 (decide_eq_true z)
        rw [if_neg (by omega)] at q
        exact q
    | undef h => cases c1
    | null => cases c1
    | bool y => cases c1
    | str h hq => cases c1
    | pstr s z c => cases z
    | arr i hq l => cases c1
    | obj h i hq l => cases c1
  · have c1 : isNumP p = false := by simpa using c1
    rw [readInt_not0 c1] at q
    exact q
theorem st_iff {n : Nat} {p : Plain} : (readState n p).isSome = true ↔ ∃ a b, p = .arr [a, b] ∧ (readInt 0 (n - 1) a).isSome = true ∧ (readInt 0 (n - 1) b).isSome = true := by
  constructor
  · intro h
    match p, h with
    | .arr [a, b], h =>
      refine ⟨a, b, rfl, ?_⟩
      have h : ((readInt 0 (n - 1) a).bind fun x => (readInt 0 (n - 1) b).map fun y => (x, y)).isSome = true := h
      cases e1 : readInt 0 (n - 1) a with
      | none => rw [e1] at h; cases h
      | some x =>
        rw [e1] at h
        cases e2 : readInt 0 (n - 1) b with
        | none => rw [e2] at h; cases h
        | some y => exact ⟨rfl, rfl⟩
    | .arr [], h => cases h
    | .arr [_], h => cases h
    | .arr (_ :: _ :: _ :: _), h => cases h
    | .undef, h => cases h
    | .null, h => cases h
    | .bool _, h => cases h
    | .num _, h => cases h
    | .str _, h => cases h
    | .obj _, h => cases h
    | .big, h => cases h
  · rintro ⟨a, b, rfl, h1, h2⟩
    show ((readInt 0 (n - 1) a).bind fun x => (readInt 0 (n - 1) b).map fun y => (x, y)).isSome = true
    obtain ⟨x, e1⟩ := Option.isSome_iff_exists.mp h1
    obtain ⟨y, e2⟩ := Option.isSome_iff_exists.mp h2
    rw [e1, e2]
    rfl
theorem readAll_err {α : Type} (f : Plain → Option α) : ∀ (l : List Plain) (i j : Nat) (p : Plain), (∀ k, k < j → ∃ x a, l[k]? = some x ∧ f x = some a) → l[j]? = some p → f p = none → readAll f i l = .error (i + j)
  | [], i, j, p, _, e, _ => by simp at e
  | a :: l, i, 0, p, _, e, h => by
    simp at e
    subst e
    unfold readAll
    rw [h]
    rfl
  | a :: l, i, j + 1, p, hk, e, h => by
    obtain ⟨x, b, e1, e2⟩ := hk 0 (by omega)
    simp at e1
    subst e1
    have ih := readAll_err f l (i + 1) j p (fun k hj => by
      obtain ⟨x, b, e1, e2⟩ := hk (k + 1) (by omega)
      exact ⟨x, b, by simpa using e1, e2⟩) (by simpa using e) h
    unfold readAll
    rw [e2]
    simp only
    rw [ih, Nat.add_assoc, Nat.add_comm 1 j]
theorem readAll_ok {α : Type} (f : Plain → Option α) : ∀ (l : List Plain) (i : Nat), (∀ k, k < l.length → ∃ x a, l[k]? = some x ∧ f x = some a) → ∃ t, readAll f i l = .ok t ∧ t.length = l.length ∧ ∀ (k : Nat) (x : Plain), l[k]? = some x → t[k]? = f x
  | [], i, _ => ⟨[], rfl, rfl, fun k x e => by simp at e⟩
  | a :: l, i, hk => by
    obtain ⟨x, b, e1, e2⟩ := hk 0 (by simp)
    simp at e1
    subst e1
    obtain ⟨t, h1, h2, h3⟩ := readAll_ok f l (i + 1) (fun k hj => by
      obtain ⟨x, b, e1, e2⟩ := hk (k + 1) (by simpa using hj)
      exact ⟨x, b, by simpa using e1, e2⟩)
    refine ⟨b :: t, ?_, by simp [h2], ?_⟩
    · unfold readAll
      rw [e2]
      simp only
      rw [h1]
    · intro k x e
      cases k with
      | zero => simp at e; subst e; simp [e2]
      | succ k => simpa using h3 k x (by simpa using e)
theorem chainMsg {j : Nat} (h : j < 3) : (asc (Str.ofString "state " ++ Str.ofString (toString ((j : Nat) : Int)) ++ Str.ofString " of chain is malformed") ∧ (Str.ofString "state " ++ Str.ofString (toString ((j : Nat) : Int)) ++ Str.ofString " of chain is malformed").cps.size ≤ 1000 ∧
    ustr (Str.ofString "state " ++ Str.ofString (toString ((j : Nat) : Int)) ++ Str.ofString " of chain is malformed") = R7244e.Spec.units ("state " ++ toString j ++ " of chain is malformed")) := by
  unfold asc
  match j, h with
  | 0, _ => decide +kernel
  | 1, _ => decide +kernel
  | 2, _ => decide +kernel
theorem m_chain : asc "chain must be a list of 1 to 3 states" ∧ ("chain must be a list of 1 to 3 states" : Str).cps.size ≤ 1000 ∧ ustr "chain must be a list of 1 to 3 states" = R7244e.Spec.units "chain must be a list of 1 to 3 states" := by unfold asc; decide +kernel
abbrev s_told_fractions : Stmt := topS 57
theorem sc_told_fractions : FnScope ["rows", "own"] ["rows"] (defScope s_told_fractions) := SB.sc_by (by decide +kernel)
theorem len_told_fractions {T : TX K mg} : ∀ vs H Q E, sp_told_fractions T vs H Q E → vs.length = (["rows"] : List Str).length := by
  rintro _ H Q E ⟨_, _, _, rfl, _⟩
  rfl
theorem ok_told_fractions (T : TX K mg)   {f : Addr} {fd : FuncData} (F : Fun K "told_fractions" "told_fractions" s_told_fractions f fd) : FnOk P w K mg base CX0 1 f fd ["rows"] (sp_told_fractions T) := by
  refine F.ok sc_told_fractions len_told_fractions (fun cdv A outer s H vs Q E hr h => ⟨_, (pss_one (ps_ret (pe_lc (own := [("own", 1)]) (g := (gName 1)) (tt := tYes) (by rfl) sc_told_fractions.nd (SB.kPiL (K := K) rfl (pv 0)) (blkOk_by (own := [("own", 1)]) (N := ["rows", "own"]) (sc := (defScope s_told_fractions)) (by decide +kernel)) (fun _ _ _ _ _ => (pg_name (i := 1) sc_told_fractions.nd rfl (by first | exact Or.inl rfl | exact Or.inr rfl))) (fun _ _ _ _ _ => pts_nil) (fun _ _ _ _ _ => (pe_callTy (SB.kListOf (K := K) rfl) (by rfl) T.b_list (by decide +kernel) (pa_cons (pv 1) pa_nil)))))), ?_⟩)
  obtain ⟨v, xs, I, rfl, ⟨a, vs, rfl, i, hq, hp⟩, hl, q⟩ := h
  refine ⟨_, rfl, a, rfl, ⟨_, hq⟩, fun D hD => ?_⟩
  refine lc_list (K := K) (a := a) (xs := vs) (fun j H3 => Same H H3 ∧ ∃ ms, H3 D = some (.lst ms) ∧ PlsAt T (fun b => FreshA H H3 b ∧ b ≠ D) H3 true ms ((xs.take j).map R7244e.Spec.ratP)) ⟨same_upd hD, [], upd_same, .nil⟩ (fun j H3 _ ⟨s3, _⟩ => Same.seq s3 hq) ?_ ?_
  · rintro j x H3 hx ⟨s3, ms, h3, p3⟩
    obtain ⟨y, ey, fy⟩ := Paired.at hp hx
    have fy := fy.same s3
    obtain ⟨xa, rfl, hxa⟩ := fy
    refine ⟨rfl, lcYes ⟨_, rfl, xa, _, rfl, .inr hxa, fun P hP => ?_⟩⟩
    have s34 : Same H3 (upd H3 P (.lst [.int y.num, .int (y.den : Nat)])) := same_upd hP
    have hPl : upd H3 P (.lst [.int y.num, .int (y.den : Nat)]) P = some (.lst [.int y.num, .int (y.den : Nat)]) := upd_same
    generalize upd H3 P (.lst [.int y.num, .int (y.den : Nat)]) = H4 at s34 hPl ⊢
    have h4 := s34 _ _ h3
    have nPD : P ≠ D := fun z => by rw [z, h3] at hP; cases hP
    have pl := p3.len
    rw [List.length_map, List.length_take] at pl
    refine ⟨ms, h4, lt_line (by omega), same_upd2 (s3.trans s34) hD, ms ++ [.ref P], upd_same, ?_⟩
    rw [take_snoc ey, List.map_append]
    have p4 : PlsAt T (fun b => FreshA H H4 b ∧ b ≠ D) H4 true (ms ++ [.ref P]) ((xs.take j).map R7244e.Spec.ratP ++ [R7244e.Spec.ratP y]) := PlsAt.snoc ((p3.same s34).mono fun b hb => ⟨⟨hb.1.1, fun z => hb.1.2 (s34.free z)⟩, hb.2⟩) (PlAt.rat ⟨⟨s3.free hP, by rw [hPl]; simp⟩, nPD⟩ hPl)
    exact PlsAt.keep (keeps_upd h4 (fun b hb => ⟨⟨hb.1.1, fun z => hb.1.2 (free_upd z)⟩, hb.2⟩) (fun b hb => hb.2)) (fun z => z) p4
  · rintro H3 ⟨s3, ms, h3, p3⟩
    rw [List.take_of_length_le (by rw [Paired.length hp]; exact Nat.le_refl _)] at p3
    exact q H3 _ s3 (.arr ⟨hD, by rw [h3]; simp⟩ (SqL.of h3) (p3.mono fun b hb => hb.1))
abbrev s_value_done : Stmt := topS 67
theorem sc_value_done : FnScope ["told"] ["told"] (defScope s_value_done) := SB.sc_by (by decide +kernel)
theorem len_value_done {T : TX K mg} : ∀ vs H Q E, sp_value_done T vs H Q E → vs.length = (["told"] : List Str).length := by
  rintro _ H Q E ⟨_, _, _, _, _, rfl, _⟩
  rfl
theorem ok_value_done (T : TX K mg) (c_record : SB.Cal P w K mg base 3 "record" (sp_record T))  {f : Addr} {fd : FuncData} (F : Fun K "value_done" "value_done" s_value_done f fd) : FnOk P w K mg base CX0 4 f fd ["told"] (sp_value_done T) := by
  refine F.ok sc_value_done len_value_done (fun cdv A outer s H vs Q E hr h => ⟨_, (pss_one (ps_ret (SB.cal c_record hr (by decide) rfl (pa_cons (pe_lst (pa_cons pe_str (pa_cons pe_str pa_nil))) (pa_cons (pe_callTy (SB.kListOf (K := K) rfl) (by rfl) T.b_list (by decide +kernel) (pa_cons (pv 0) pa_nil)) pa_nil))))), ?_⟩)
  obtain ⟨tp, o, p, f, J, rfl, ht, hp, al, q⟩ := h
  refine ⟨le_line (by show 2 ≤ _; decide), fun N hN => ⟨_, rfl, tp, _, rfl, .inr (same_tup (same_upd hN) ht), fun L hL => ?_⟩⟩
  have s1 : Same H (upd H N (.lst [.str "value", .str "done"])) := same_upd hN
  have h1 : upd H N (.lst [.str "value", .str "done"]) N = some (.lst (([("value" : Str), "done"]).map V.str)) := upd_same
  generalize upd H N (.lst [.str "value", .str "done"]) = H1 at s1 h1 hL ⊢
  have s2 : Same H1 (upd H1 L (.lst [o, .bl f])) := same_upd hL
  have h2 : upd H1 L (.lst [o, .bl f]) L = some (.lst [o, .bl f]) := upd_same
  generalize upd H1 L (.lst [o, .bl f]) = H2 at s2 h2 ⊢
  have s12 := s1.trans s2
  refine ⟨N, L, [("value" : Str), "done"], [o, .bl f], [p, .bool f], J, rfl, SqL.of (s2 _ _ h1), SqL.of h2, .cons (hp.same s12) (.cons (.bool f) .nil), al_same s12 al, rfl, (show 2 ≤ 100 by decide), ?_, fun H3 r3 s3 p3 => ?_⟩
  · intro s hs
    simp only [List.mem_cons, List.not_mem_nil, or_false] at hs
    rcases hs with h | h <;> subst h
    · exact ac_value
    · exact ac_done
  · have e : R7244e.Spec.Plain.obj ((([("value" : Str), "done"]).map ustr).zip [p, .bool f]) = R7244e.Spec.iteratorResult p f := by
      simp only [List.map_cons, List.map_nil, nm_value, nm_done]
      rfl
    rw [e] at p3
    refine q H3 r3 (s12.trans s3) (p3.mono fun b hb => ?_)
    rcases hb with hb | hb
    · exact .inl hb
    · exact .inr ⟨s12.free hb.1, hb.2⟩

end
end SP

/-! ## D3 -/
set_option maxHeartbeats 4000000
namespace SP
open PySem PySem.Spec PyProof.Rows L2 SB
open SS (VC VG R Sz RateOk treeW ratesOf leadsTo)
open R7244e.Spec (reachable recurrentStates hasOneClass canMeet distribution wordProb endState coverage separation unstopped stopProbs survival entry target)
section
variable {P : Program} {w : World} {base : Heap}
variable {K : PySem.W.Frag} {mg : Str → Option Value}

open R7244e.Spec (readInt readState readChain readAll readNumber)
theorem chain_bad {p : Plain} (h : ¬ (R7244e.Spec.isArray p && decide (1 ≤ (R7244e.Spec.elements p).length ∧ (R7244e.Spec.elements p).length ≤ 3)) = true) : readChain p = .error (R7244e.Spec.wrong "chain must be a list of 1 to 3 states") := by
  unfold readChain
  have e : (!(R7244e.Spec.isArray p && decide (1 ≤ (R7244e.Spec.elements p).length ∧ (R7244e.Spec.elements p).length ≤ 3))) = true := by
    rw [Bool.not_eq_true'] 
    exact eq_false_of_ne_true h
  rw [if_pos e]
  rfl
theorem chain_good {l : List Plain} (h1 : 1 ≤ l.length) (h3 : l.length ≤ 3) : readChain (.arr l) = match readAll (readState l.length) 0 l with
    | .error i => .error (R7244e.Spec.beyond ("state " ++ toString i ++ " of chain is malformed"))
    | .ok t => .ok t := by
  unfold readChain
  have e : (!(R7244e.Spec.isArray (.arr l) && decide (1 ≤ (R7244e.Spec.elements (.arr l)).length ∧ (R7244e.Spec.elements (.arr l)).length ≤ 3))) = false := by
    show (!(true && decide (1 ≤ l.length ∧ l.length ≤ 3))) = false
    rw [decide_eq_true ⟨h1, h3⟩]
    rfl
  rw [if_neg (by rw [e]; decide)]
  show (match readAll (readState l.length) 0 l with
    | .error i => R7244e.Spec.failRange ("state " ++ toString i ++ " of chain is malformed")
    | .ok t => .ok t) = _
  cases readAll (readState l.length) 0 l <;> rfl
theorem chainLen {j : Nat} (h : j < 3) : (Str.ofString "state ").length + (Str.ofString (toString ((j : Nat) : Int))).length ≤ 100 ∧ (Str.ofString "state " ++ Str.ofString (toString ((j : Nat) : Int))).length + (Str.ofString " of chain is malformed").length ≤ 100 ∧ (((j : Nat) : Int)).natAbs.log2 < 1920 := by
  match j, h with
  | 0, _ => decide +kernel
  | 1, _ => decide +kernel
  | 2, _ => decide +kernel
abbrev addS : R2 := fun x y H Q => ∃ i j, x = V.str i ∧ y = V.str j ∧ i.length + j.length ≤ sizeLine ∧ Q (V.str (i ++ j)) H
abbrev strI : List V → Hp → VK → Prop := fun xs H Q => ∃ i, xs = [V.int i] ∧ i.natAbs.log2 < 1920 ∧ Q (V.str (Str.ofString (toString i))) H
abbrev s_chain_in : Stmt := topS 51
theorem sc_chain_in : FnScope ["value", "many", "number", "own", "is_right", "one"] ["value"] (defScope s_chain_in) := SB.sc_by (by decide +kernel)
theorem len_chain_in {T : TX K mg} : ∀ vs H Q E, sp_chain_in T vs H Q E → vs.length = (["value"] : List Str).length := by
  rintro _ H Q E ⟨_, _, _, rfl, _⟩
  rfl
theorem ok_chain_in (T : TX K mg) (c_is_state_number : SB.Cal P w K mg base 2 "is_state_number" (sp_is_state_number T)) (c_refuse : SB.CalX P w K mg base 3 "refuse" (sp_refuse T))  {f : Addr} {fd : FuncData} (F : Fun K "chain_in" "chain_in" s_chain_in f fd) : FnOk P w K mg base (L2N.CX P w) 4 f fd ["value"] (sp_chain_in T) := by
  refine SB.okN F sc_chain_in len_chain_in (fun cdv A outer s H vs Q E hr h => ⟨_, (pss_cons (ps_if (PW.pt (pw_or (pt_not (pt_val (pe_callB (SB.kIsi (K := K) rfl) (by rfl) T.b_isinstance (by decide +kernel) (pa_cons (pv 0) (pa_cons (pe_bltn (v := .ty "list") (u := .type "list") (by rfl) T.b_list (by decide +kernel) rfl) pa_nil))))) (pw_or1 (pt_not (pt_chain op_le op_le pe_int (pe_callB (SB.kLen (K := K) rfl) (by rfl) T.b_len PySem.boot_len (pa_cons (pv 0) pa_nil)) (pe_glob (v := .int 3) rfl T.gMOST_STATES ⟨_, rfl⟩)))))) (pss_one (ps_expr (SB.pe_cX c_refuse hr (by decide) rfl (L2N.takes_of rfl rfl rfl rfl) (by exact (pa_cons (pe_glob (v := .int 1) rfl T.gWRONG_KIND ⟨_, rfl⟩) (pa_cons pe_str pa_nil)))))) pss_nil) (pss_cons (ps_set (i := 1) sc_chain_in.nd rfl (by first | exact Or.inl rfl | exact Or.inr rfl) (pe_callB (SB.kLen (K := K) rfl) (by rfl) T.b_len PySem.boot_len (pa_cons (pv 0) pa_nil))) (pss_cons (ps_for (by first | exact PassesOwn.never | exact passes_of rfl) rfl (pi_enum (by rfl) T.b_enumerate (pa_cons (pv 0) pa_nil)) (pg_tup (by rfl) (pgs_cons (pg_name (i := 2) sc_chain_in.nd rfl (by first | exact Or.inl rfl | exact Or.inr rfl)) (pgs_cons (pg_name (i := 3) sc_chain_in.nd rfl (by first | exact Or.inl rfl | exact Or.inr rfl)) pgs_nil))) (pss_cons (ps_set (i := 4) sc_chain_in.nd rfl (by first | exact Or.inl rfl | exact Or.inr rfl) (pe_and (pe_callB (SB.kIsi (K := K) rfl) (by rfl) T.b_isinstance (by decide +kernel) (pa_cons (pv 3) (pa_cons (pe_bltn (v := .ty "list") (u := .type "list") (by rfl) T.b_list (by decide +kernel) rfl) pa_nil))) (pe_one (pe_cmpR op_eq (pe_callB (SB.kLen (K := K) rfl) (by rfl) T.b_len PySem.boot_len (pa_cons (pv 3) pa_nil)) pe_int (nomark _))))) (pss_one (ps_if (PW.pt (pw_or (pt_not (pt_val (pv 4))) (pw_or1 (pt_not (pt_val (pe_callB (SB.kAll (K := K) rfl rfl) (by rfl) T.b_all (by decide +kernel) (pa_cons (pe_lc (own := [("one", 5)]) (g := (gName 5)) (tt := tYes) (by rfl) sc_chain_in.nd (SB.kPiL (K := K) rfl (pv 3)) (blkOk_by (own := [("one", 5)]) (N := ["value", "many", "number", "own", "is_right", "one"]) (sc := (defScope s_chain_in)) (by decide +kernel)) (fun _ _ _ _ _ => (pg_name (i := 5) sc_chain_in.nd rfl (by first | exact Or.inl rfl | exact Or.inr rfl))) (fun _ _ _ _ _ => pts_nil) (fun _ _ _ _ _ => (SB.cal c_is_state_number hr (by decide) rfl (pa_cons (pv 5) (pa_cons (pv 1) pa_nil))))) pa_nil))))))) (pss_one (ps_expr (SB.pe_cX c_refuse hr (by decide) rfl (L2N.takes_of rfl rfl rfl rfl) (by exact (pa_cons (pe_glob (v := .int 2) rfl T.gOUT_OF_RANGE ⟨_, rfl⟩) (pa_cons (pe_op op_add_str (pe_op op_add_str pe_str (pe_callTy call_str_int (by rfl) T.b_str (by decide +kernel) (pa_cons (pv 2) pa_nil))) pe_str) pa_nil)))))) pss_nil)))) (pss_one (ps_ret (pv 0)))))), ?_⟩)
  obtain ⟨v, p, I, rfl, hp, q, e⟩ := h
  obtain ⟨t, ty, ek⟩ := isi_list hp
  obtain ⟨mc1, mc2, mc3⟩ := m_chain
  refine ⟨_, rfl, v, .ty "list", t, .type "list", isArrP p, rfl, .ty "list", ty, ek, _, rfl, ?_⟩
  have bad : ∀ {σ5 : L2.St} {D : Ends}, ¬ (R7244e.Spec.isArray p && decide (1 ≤ (R7244e.Spec.elements p).length ∧ (R7244e.Spec.elements p).length ≤ 3)) = true → (tDrop (tCallS (sp_refuse T) (WE fun cls d _ H => E cls d H) (tCons (tC (V.int 1)) (tCons (tC (V.str (Str.ofString "chain must be a list of 1 to 3 states"))) tNil)))) D σ5 H := by
    intro σ5 D h
    exact ⟨1, _, rfl, fun H' d s' h' => refuse_at (e _ (chain_bad h)) mc1 mc2 mc3 rfl s' h'⟩
  have na : ∀ {b : Bool}, R7244e.Spec.isArray p = false → ¬ (R7244e.Spec.isArray p && b) = true := by
    intro b h
    rw [h]
    exact fun z => nomatch z
  cases hp with
  | @arr a vs l i hq hps =>
    have lv := hps.len
    have b2 : ¬ (1 ≤ l.length ∧ l.length ≤ 3) → ¬ (R7244e.Spec.isArray (.arr l) && decide (1 ≤ (R7244e.Spec.elements (.arr l)).length ∧ (R7244e.Spec.elements (.arr l)).length ≤ 3)) = true := by
      intro h
      show ¬ (true && decide (1 ≤ l.length ∧ l.length ≤ 3)) = true
      rw [decide_eq_false h]
      decide
    refine itF rfl ⟨_, rfl, a, vs, rfl, .inl hq, _, _, rfl, rfl, _, rfl, ?_⟩
    refine ite2 (fun c1 => ?_) (fun c1 => ⟨_, rfl, itT rfl (bad (b2 (fun z => c1 (decide_eq_true (by omega)))))⟩)
    have c1 : (1 : Int) ≤ ((vs.length : Nat) : Int) := of_decide_eq_true c1
    refine ⟨_, _, rfl, rfl, _, rfl, ?_⟩
    cases c3 : decide (((vs.length : Nat) : Int) ≤ 3) with
    | false =>
      have c3 := of_decide_eq_false c3
      exact itT rfl (bad (b2 (fun z => c3 (by omega))))
    | true =>
    have c3 : ((vs.length : Nat) : Int) ≤ 3 := of_decide_eq_true c3
    have hgood := chain_good (l := l) (by omega) (by omega)
    refine itF rfl ⟨_, rfl, a, vs, rfl, .inl hq, _, rfl, a, _, rfl, hq, ?_⟩
    refine for_it (walk_enum (K := K) (a := a) (xs := vs)) (fun j σ H' => ∃ o2 o3 o4 o5 : Option V, σ = [some (.ref a), some (.int ((vs.length : Nat) : Int)), o2, o3, o4, o5] ∧ Same H H' ∧ ∀ k, k < j → ∃ x t, l[k]? = some x ∧ readState l.length x = some t)
      ⟨none, none, none, none, rfl, Same.refl H, fun k h => by omega⟩ (fun j σ H' _ ⟨_, _, _, _, _, s3, _⟩ => Same.seq s3 hq) ?_ ?_
    · rintro j x σ H3 H4 hj ⟨o2, o3, o4, o5, rfl, s3, hok⟩ ⟨Tp, x1, y1, rfl, hT, rfl, e1, e2⟩
      cases e1
      have e2 : vs[j]? = some y1 := e2
      have hj3 : j < 3 := by omega
      obtain ⟨pj, ep, hpj⟩ := hps.get' e2
      have s34 : Same H3 (upd H3 Tp (.tup [intT j, y1])) := same_upd hT
      have hTp : upd H3 Tp (.tup [intT j, y1]) Tp = some (.tup [intT j, y1]) := upd_same
      generalize upd H3 Tp (.tup [intT j, y1]) = H5 at s34 hTp ⊢
      have s5 := s3.trans s34
      have hp5 := hpj.same s5
      obtain ⟨l1, l2, l3⟩ := chainLen hj3
      obtain ⟨n1, n2, n3⟩ := chainMsg hj3
      have bad2 : ∀ {σ6 : L2.St} {D : Ends} {H6 : Hp}, Same H H6 → σ6[2]? = some (some (intT j)) → readState l.length pj = none → (tDrop (tCallS (sp_refuse T) (WE fun cls d _ H => E cls d H) (tCons (tC (V.int 2)) (tCons (tOp addS (tOp addS (tC (V.str (Str.ofString "state "))) (tCB strI (tCons (tVar 2) tNil))) (tC (V.str (Str.ofString " of chain is malformed")))) tNil)))) D σ6 H6 := by
        intro σ6 D H6 s6 h2 hn
        have er : readChain (.arr l) = .error (R7244e.Spec.beyond ("state " ++ toString j ++ " of chain is malformed")) := by
          rw [hgood, readAll_err (readState l.length) l 0 j pj hok ep hn, Nat.zero_add]
        exact ⟨_, h2, ((j : Nat) : Int), rfl, l3, _, _, rfl, rfl, le_line (by omega), _, _, rfl, rfl, le_line (by omega), 2, _, rfl, fun H' d s' h' => refuse_at (e _ er) n1 n2 n3 rfl (s6.trans s') h'⟩
      obtain ⟨t2, ty2, ek2⟩ := isi_list hp5
      refine ⟨Tp, _, rfl, SqT.of hTp, rfl, _, _, rfl, _, _, rfl, rfl, _, rfl, y1, .ty "list", t2, .type "list", isArrP pj, rfl, .ty "list", ty2, ek2, _, rfl, ?_⟩
      cases hp5 with
      | @arr a2 vs2 lp i2 hq2 hps2 =>
        have lv2 := hps2.len
        refine itT rfl ⟨_, rfl, a2, vs2, rfl, .inl hq2, rfl, _, rfl, _, rfl, ?_⟩
        have et : decide (V.int ((vs2.length : Nat) : Int) = V.int 2) = decide (lp.length = 2) := by
          have := eqi vs2.length 2
          rw [show (V.int ((vs2.length : Nat) : Int)) = intT vs2.length from rfl, this, decide_eq_decide]
          omega
        rw [et]
        by_cases h2 : lp.length = 2
        · rw [decide_eq_true h2]
          obtain ⟨pa, pb, rfl⟩ : ∃ pa pb, lp = [pa, pb] := by
            match lp, h2 with
            | [pa, pb], _ => exact ⟨pa, pb, rfl⟩
          refine itF rfl ⟨_, rfl, a2, rfl, ⟨_, hq2⟩, fun D hD => ?_⟩
          refine lc_list (K := K) (a := a2) (xs := vs2) (fun k H6 => Same H5 H6 ∧ H6 D = some (.lst (([pa, pb].take k).map fun z => V.bl (readInt 0 (l.length - 1) z).isSome))) ⟨same_upd hD, upd_same⟩ (fun k H6 _ ⟨s6, _⟩ => Same.seq s6 hq2) ?_ ?_
          · rintro k x H6 hx ⟨s6, h6⟩
            obtain ⟨pk, ek3, hpk⟩ := hps2.get' hx
            refine ⟨rfl, lcYes ⟨_, rfl, _, rfl, x, pk, l.length, I, by rw [lv]; rfl, hpk.same s6, by omega, _, h6, ?_, same_upd2 s6 hD, ?_⟩⟩
            · rw [List.length_map, List.length_take]
              exact lt_line (by show min k 2 ≤ _; omega)
            · rw [upd_same, take_map_succ ek3]
          · rintro H6 ⟨s6, h6⟩
            rw [List.take_of_length_le (by show 2 ≤ _; omega)] at h6
            have h6 : H6 D = some (.lst ([(readInt 0 (l.length - 1) pa).isSome, (readInt 0 (l.length - 1) pb).isSome].map V.bl)) := h6
            refine ⟨D, _, rfl, SqL.of h6, _, rfl, ?_⟩
            have ea : ([(readInt 0 (l.length - 1) pa).isSome, (readInt 0 (l.length - 1) pb).isSome].all id) = ((readInt 0 (l.length - 1) pa).isSome && (readInt 0 (l.length - 1) pb).isSome) := by
              simp
            rw [ea]
            cases hb : ((readInt 0 (l.length - 1) pa).isSome && (readInt 0 (l.length - 1) pb).isSome) with
            | true =>
              rw [Bool.and_eq_true] at hb
              refine itF rfl ⟨some (intT j), some (.ref a2), some (.bl true), o5, rfl, s5.trans s6, fun k hk => ?_⟩
              by_cases ekj : k = j
              · subst ekj
                obtain ⟨t3, e3⟩ := Option.isSome_iff_exists.mp (st_iff.mpr ⟨pa, pb, rfl, hb.1, hb.2⟩)
                exact ⟨_, t3, ep, e3⟩
              · exact hok k (by omega)
            | false =>
              refine itT rfl (bad2 (s5.trans s6) rfl ?_)
              cases er : readState l.length (.arr [pa, pb]) with
              | none => rfl
              | some t3 =>
                obtain ⟨a', b', e', h1', h2'⟩ := st_iff.mp (by rw [er]; rfl : (readState l.length (.arr [pa, pb])).isSome = true)
                cases e'
                rw [h1', h2'] at hb
                cases hb
        · rw [decide_eq_false h2]
          refine itT rfl (itT rfl (bad2 s5 rfl ?_))
          cases er : readState l.length (.arr lp) with
          | none => rfl
          | some t3 =>
            obtain ⟨a', b', e', _⟩ := st_iff.mp (by rw [er]; rfl : (readState l.length (.arr lp)).isSome = true)
            cases e'
            exact absurd rfl h2
      | undef h => exact itF rfl ⟨_, rfl, _, rfl, itT rfl (itT rfl (bad2 s5 rfl rfl))⟩
      | null => exact itF rfl ⟨_, rfl, _, rfl, itT rfl (itT rfl (bad2 s5 rfl rfl))⟩
      | bool y => exact itF rfl ⟨_, rfl, _, rfl, itT rfl (itT rfl (bad2 s5 rfl rfl))⟩
      | num i => exact itF rfl ⟨_, rfl, _, rfl, itT rfl (itT rfl (bad2 s5 rfl rfl))⟩
      | str h hq => exact itF rfl ⟨_, rfl, _, rfl, itT rfl (itT rfl (bad2 s5 rfl rfl))⟩
      | pstr s z c => cases z
      | obj h i hq l => exact itF rfl ⟨_, rfl, _, rfl, itT rfl (itT rfl (bad2 s5 rfl rfl))⟩
    · rintro σ H3 ⟨o2, o3, o4, o5, rfl, s3, hok⟩
      rw [lv] at hok
      obtain ⟨t3, h1, h2, h3⟩ := readAll_ok (readState l.length) l 0 hok
      rw [h1] at hgood
      exact ⟨_, rfl, q t3 hgood H3 s3⟩
  | undef h => exact itT rfl (itT rfl (bad (na rfl)))
  | null => exact itT rfl (itT rfl (bad (na rfl)))
  | bool y => exact itT rfl (itT rfl (bad (na rfl)))
  | num i => exact itT rfl (itT rfl (bad (na rfl)))
  | str h hq => exact itT rfl (itT rfl (bad (na rfl)))
  | pstr s z c => cases z
  | obj h i hq l => exact itT rfl (itT rfl (bad (na rfl)))

end
end SP

/-! ## D4 -/
set_option maxHeartbeats 4000000
namespace SP
open PySem PySem.Spec PyProof.Rows L2 SB
open SS (VC VG R Sz RateOk treeW ratesOf leadsTo)
open R7244e.Spec (reachable recurrentStates hasOneClass canMeet distribution wordProb endState coverage separation unstopped stopProbs survival entry target)
section
variable {P : Program} {w : World} {base : Heap}
variable {K : PySem.W.Frag} {mg : Str → Option Value}

open R7244e.Spec (readInt readState readChain readAll readNumber readBias)
theorem isFr_arr {most : Nat} {l : List Plain} (h : isFr most (.arr l) = true) : ∃ i n : Int, l = [.num (some i), .num (some n)] := by
  match l, h with
  | [.num (some i), .num (some n)], _ => exact ⟨i, n, rfl⟩
theorem plsAt_two {T : TX K mg} {I : Addr → Prop} {H : Hp} {b : Bool} {vs : List V} {i n : Int} (h : PlsAt T I H b vs [.num (some i), .num (some n)]) : vs = [.int i, .int n] := by
  cases h with
  | cons h1 h =>
    cases h with
    | cons h2 h =>
      cases h
      cases h1
      cases h2
      rfl
abbrev s_is_fraction : Stmt := topS 52
theorem sc_is_fraction : FnScope ["value", "most", "own"] ["value", "most"] (defScope s_is_fraction) := SB.sc_by (by decide +kernel)
theorem len_is_fraction {T : TX K mg} : ∀ vs H Q E, sp_is_fraction T vs H Q E → vs.length = (["value", "most"] : List Str).length := by
  rintro _ H Q E ⟨_, _, _, _, rfl, _⟩
  rfl
theorem ok_is_fraction (T : TX K mg) (c_divisor : SB.Cal P w K mg base 1 "divisor" (sp_divisor T)) (c_is_integer : SB.Cal P w K mg base 1 "is_integer" (sp_is_integer T))  {f : Addr} {fd : FuncData} (F : Fun K "is_fraction" "is_fraction" s_is_fraction f fd) : FnOk P w K mg base CX0 2 f fd ["value", "most"] (sp_is_fraction T) := by
  refine F.ok sc_is_fraction len_is_fraction (fun cdv A outer s H vs Q E hr h => ⟨_, (pss_cons (ps_if (PW.pt (pw_or (pt_not (pt_val (pe_callB (SB.kIsi (K := K) rfl) (by rfl) T.b_isinstance (by decide +kernel) (pa_cons (pv 0) (pa_cons (pe_bltn (v := .ty "list") (u := .type "list") (by rfl) T.b_list (by decide +kernel) rfl) pa_nil))))) (pw_or (pt_cmpR op_ne (pe_callB (SB.kLen (K := K) rfl) (by rfl) T.b_len PySem.boot_len (pa_cons (pv 0) pa_nil)) pe_int (nomark _)) (pw_or1 (pt_not (pt_val (pe_callB (SB.kAll (K := K) rfl rfl) (by rfl) T.b_all (by decide +kernel) (pa_cons (pe_lc (own := [("own", 2)]) (g := (gName 2)) (tt := tYes) (by rfl) sc_is_fraction.nd (SB.kPiL (K := K) rfl (pv 0)) (blkOk_by (own := [("own", 2)]) (N := ["value", "most", "own"]) (sc := (defScope s_is_fraction)) (by decide +kernel)) (fun _ _ _ _ _ => (pg_name (i := 2) sc_is_fraction.nd rfl (by first | exact Or.inl rfl | exact Or.inr rfl))) (fun _ _ _ _ _ => pts_nil) (fun _ _ _ _ _ => (SB.cal c_is_integer hr (by decide) rfl (pa_cons (pv 2) pa_nil)))) pa_nil)))))))) (pss_one (ps_ret pe_bl)) pss_nil) (pss_one (ps_ret (pe_and (pe_cmpR op_ge (pe_ix (SB.kIxL (K := K) rfl) (pv 0) pe_int (fun _ _ => rfl)) pe_int (nomark _)) (pe_and (pe_chain op_le op_le pe_int (pe_ix (SB.kIxL (K := K) rfl) (pv 0) pe_int (fun _ _ => rfl)) (pv 1)) (pe_one (pe_cmpR op_eq (SB.cal c_divisor hr (by decide) rfl (pa_cons (pe_ix (SB.kIxL (K := K) rfl) (pv 0) pe_int (fun _ _ => rfl)) (pa_cons (pe_ix (SB.kIxL (K := K) rfl) (pv 0) pe_int (fun _ _ => rfl)) pa_nil))) pe_int (nomark _)))))))), ?_⟩)
  obtain ⟨v, p, most, I, rfl, hp, q⟩ := h
  obtain ⟨t, ty, ek⟩ := isi_list hp
  have q0 := q H (Same.refl H)
  refine ⟨_, rfl, v, .ty "list", t, .type "list", isArrP p, rfl, .ty "list", ty, ek, _, rfl, ?_⟩
  cases hp with
  | @arr a vs l i hq hps =>
    have lv := hps.len
    have et : decide (V.int ((vs.length : Nat) : Int) = V.int 2) = decide (l.length = 2) := by
      have := eqi vs.length 2
      rw [show (V.int ((vs.length : Nat) : Int)) = intT vs.length from rfl, this, decide_eq_decide]
      omega
    refine itF rfl ⟨_, rfl, a, vs, rfl, .inl hq, rfl, _, rfl, ?_⟩
    rw [et]
    by_cases h2 : l.length = 2
    · rw [decide_eq_true h2]
      obtain ⟨pa, pb, rfl⟩ : ∃ pa pb, l = [pa, pb] := by
        match l, h2 with
        | [pa, pb], _ => exact ⟨pa, pb, rfl⟩
      refine itF rfl ⟨_, rfl, a, rfl, ⟨_, hq⟩, fun D hD => ?_⟩
      refine lc_list (K := K) (a := a) (xs := vs) (fun k H6 => Same H H6 ∧ H6 D = some (.lst (([pa, pb].take k).map fun z => V.bl (isNumP z)))) ⟨same_upd hD, upd_same⟩ (fun k H6 _ ⟨s6, _⟩ => Same.seq s6 hq) ?_ ?_
      · rintro k x H6 hx ⟨s6, h6⟩
        obtain ⟨pk, ek3, hpk⟩ := hps.get' hx
        refine ⟨rfl, lcYes ⟨_, rfl, x, pk, false, I, rfl, hpk.same s6, _, h6, ?_, same_upd2 s6 hD, ?_⟩⟩
        · rw [List.length_map, List.length_take]
          exact lt_line (by show min k 2 ≤ _; omega)
        · rw [upd_same, take_map_succ ek3]
      · rintro H6 ⟨s6, h6⟩
        rw [List.take_of_length_le (by show 2 ≤ _; omega)] at h6
        have h6 : H6 D = some (.lst ([isNumP pa, isNumP pb].map V.bl)) := h6
        have q6 := q H6 s6
        refine ⟨D, _, rfl, SqL.of h6, _, rfl, ?_⟩
        have ea : ([isNumP pa, isNumP pb].all id) = (isNumP pa && isNumP pb) := by simp
        rw [ea]
        obtain ⟨v0, v1, rfl, hpa, hpb⟩ : ∃ v0 v1, vs = [v0, v1] ∧ PlAt T I H false v0 pa ∧ PlAt T I H false v1 pb := by
          cases hps with
          | cons h1 h =>
            cases h with
            | cons h2 h =>
              cases h
              exact ⟨_, _, rfl, h1, h2⟩
        cases hb : (isNumP pa && isNumP pb) with
        | true =>
          rw [Bool.and_eq_true] at hb
          obtain ⟨i0, rfl, rfl⟩ : ∃ i0, pa = .num (some i0) ∧ v0 = .int i0 := by
            obtain ⟨hb, _⟩ := hb
            cases hpa with
            | num i => exact ⟨i, rfl, rfl⟩
            | _ => cases hb
          obtain ⟨n0, rfl, rfl⟩ : ∃ n0, pb = .num (some n0) ∧ v1 = .int n0 := by
            obtain ⟨_, hb⟩ := hb
            cases hpb with
            | num i => exact ⟨i, rfl, rfl⟩
            | _ => cases hb
          have hq6 := seq_same s6 hq
          have q6 : Q (.bl (decide (0 ≤ i0 ∧ 1 ≤ n0 ∧ n0 ≤ ((most : Nat) : Int) ∧ Nat.gcd i0.toNat n0.toNat = 1))) H6 := q6
          refine itF rfl ⟨_, rfl, a, _, 0, _, rfl, rfl, hq6, rfl, _, _, rfl, rfl, _, rfl, ?_⟩
          refine ite2 (fun c1 => ?_) (fun c1 => ?_)
          · have c1 : 0 ≤ i0 := of_decide_eq_true c1
            refine ⟨_, rfl, a, _, 1, _, rfl, rfl, hq6, rfl, _, _, rfl, rfl, _, rfl, ?_⟩
            refine ite2 (fun c2 => ?_) (fun c2 => ?_)
            · have c2 : 1 ≤ n0 := of_decide_eq_true c2
              refine ⟨_, rfl, _, _, rfl, rfl, _, rfl, ?_⟩
              refine ite2 (fun c3 => ?_) (fun c3 => ?_)
              · have c3 : n0 ≤ ((most : Nat) : Int) := of_decide_eq_true c3
                refine ⟨_, rfl, a, _, 0, _, rfl, rfl, hq6, rfl, _, rfl, a, _, 1, _, rfl, rfl, hq6, rfl, i0.toNat, n0.toNat, ?_, rfl, ?_⟩
                · rw [intT, intT, Int.toNat_of_nonneg c1, Int.toNat_of_nonneg (by omega)]
                  rfl
                · have e : decide (intT (Nat.gcd i0.toNat n0.toNat) = V.int 1) = decide (0 ≤ i0 ∧ 1 ≤ n0 ∧ n0 ≤ ((most : Nat) : Int) ∧ Nat.gcd i0.toNat n0.toNat = 1) := by
                    rw [eqi, decide_eq_decide]
                    constructor
                    · intro z
                      exact ⟨c1, c2, c3, by omega⟩
                    · rintro ⟨_, _, _, z⟩
                      rw [z]
                      rfl
                  rw [e]
                  exact q6
              · have c3 : ¬ n0 ≤ ((most : Nat) : Int) := fun z => c3 (decide_eq_true z)
                rw [decide_eq_false (fun z => c3 z.2.2.1)] at q6
                exact q6
            · have c2 : ¬ 1 ≤ n0 := fun z => c2 (decide_eq_true z)
              rw [decide_eq_false (fun z => c2 z.2.1)] at q6
              exact ⟨_, rfl, itF rfl q6⟩
          · have c1 : ¬ 0 ≤ i0 := fun z => c1 (decide_eq_true z)
            rw [decide_eq_false (fun z => c1 z.1)] at q6
            exact q6
        | false =>
          have e : isFr most (.arr [pa, pb]) = false := by
            cases er : isFr most (.arr [pa, pb]) with
            | false => rfl
            | true =>
              obtain ⟨i, n, e⟩ := isFr_arr er
              injection e with e1 e2
              injection e2 with e2 _
              rw [e1, e2] at hb
              cases hb
          rw [e] at q6
          exact itT rfl q6
    · rw [decide_eq_false h2]
      have e : isFr most (.arr l) = false := by
        cases er : isFr most (.arr l) with
        | false => rfl
        | true =>
          obtain ⟨i, n, e⟩ := isFr_arr er
          rw [e] at h2
          exact absurd rfl h2
      rw [e] at q0
      exact itT rfl (itT rfl q0)
  | undef h => exact itT rfl (itT rfl q0)
  | null => exact itT rfl (itT rfl q0)
  | bool y => exact itT rfl (itT rfl q0)
  | num i => exact itT rfl (itT rfl q0)
  | str h hq => exact itT rfl (itT rfl q0)
  | pstr s z c => cases z
  | obj h i hq l => exact itT rfl (itT rfl q0)

end
end SP

/-! ## D5 -/
set_option maxHeartbeats 4000000
namespace SP
open PySem PySem.Spec PyProof.Rows L2 SB
open SS (VC VG R Sz RateOk treeW ratesOf leadsTo)
open R7244e.Spec (reachable recurrentStates hasOneClass canMeet distribution wordProb endState coverage separation unstopped stopProbs survival entry target)
section
variable {P : Program} {w : World} {base : Heap}
variable {K : PySem.W.Frag} {mg : Str → Option Value}

open R7244e.Spec (readInt readState readChain readAll readNumber readBias)
theorem msg_steps {name : String} {most : Nat} (h : (name = "steps" ∧ most = 8) ∨ (name = "maxLength" ∧ most = 4)) : asc (Str.ofString name ++ Str.ofString " must be an integer from 0 to " ++ Str.ofString (toString ((most : Nat) : Int))) ∧ (Str.ofString name ++ Str.ofString " must be an integer from 0 to " ++ Str.ofString (toString ((most : Nat) : Int))).cps.size ≤ 1000 ∧
    ustr (Str.ofString name ++ Str.ofString " must be an integer from 0 to " ++ Str.ofString (toString ((most : Nat) : Int))) = R7244e.Spec.units (name ++ " must be an integer from " ++ toString 0 ++ " to " ++ toString most) ∧
    (Str.ofString name).length + (Str.ofString " must be an integer from 0 to ").length ≤ 100 ∧ (Str.ofString name ++ Str.ofString " must be an integer from 0 to ").length + (Str.ofString (toString ((most : Nat) : Int))).length ≤ 100 ∧ (((most : Nat) : Int)).natAbs.log2 < 1920 := by
  unfold asc
  rcases h with ⟨rfl, rfl⟩ | ⟨rfl, rfl⟩
  · decide +kernel
  · decide +kernel
abbrev s_check_steps : Stmt := topS 56
theorem sc_check_steps : FnScope ["value", "name", "most"] ["value", "name", "most"] (defScope s_check_steps) := SB.sc_by (by decide +kernel)
theorem len_check_steps {T : TX K mg} : ∀ vs H Q E, sp_check_steps T vs H Q E → vs.length = (["value", "name", "most"] : List Str).length := by
  rintro _ H Q E ⟨_, _, _, _, _, rfl, _⟩
  rfl
theorem ok_check_steps (T : TX K mg) (c_is_integer : SB.Cal P w K mg base 1 "is_integer" (sp_is_integer T)) (c_refuse : SB.CalX P w K mg base 3 "refuse" (sp_refuse T))  {f : Addr} {fd : FuncData} (F : Fun K "check_steps" "check_steps" s_check_steps f fd) : FnOk P w K mg base (L2N.CX P w) 4 f fd ["value", "name", "most"] (sp_check_steps T) := by
  refine SB.okN F sc_check_steps len_check_steps (fun cdv A outer s H vs Q E hr h => ⟨_, (pss_one (ps_if (PW.pt (pw_or (pt_not (pt_val (SB.cal c_is_integer hr (by decide) rfl (pa_cons (pv 0) pa_nil)))) (pw_or1 (pt_not (pt_chain op_le op_le pe_int (pv 0) (pv 2)))))) (pss_one (ps_expr (SB.pe_cX c_refuse hr (by decide) rfl (L2N.takes_of rfl rfl rfl rfl) (by exact (pa_cons (pe_glob (v := .int 2) rfl T.gOUT_OF_RANGE ⟨_, rfl⟩) (pa_cons (pe_op op_add_str (pe_op op_add_str (pv 1) pe_str) (pe_callTy call_str_int (by rfl) T.b_str (by decide +kernel) (pa_cons (pv 2) pa_nil))) pa_nil)))))) pss_nil)), ?_⟩)
  obtain ⟨v, p, name, most, I, rfl, hp, hn, q, e⟩ := h
  obtain ⟨m1, m2, m3, m4, m5, m6⟩ := msg_steps hn
  have bad : ∀ {σ5 : L2.St} {D : Ends}, σ5[1]? = some (some (.str (Str.ofString name))) → σ5[2]? = some (some (intT most)) → readInt 0 most p = none → (tDrop (tCallS (sp_refuse T) (WE fun cls d _ H => E cls d H) (tCons (tC (V.int 2)) (tCons (tOp addS (tOp addS (tVar 1) (tC (V.str (Str.ofString " must be an integer from 0 to ")))) (tCB strI (tCons (tVar 2) tNil))) tNil)))) D σ5 H := by
    intro σ5 D h1 h2 hr
    have er : readNumber name 0 most p = .error (R7244e.Spec.beyond (name ++ " must be an integer from " ++ toString 0 ++ " to " ++ toString most)) := by
      unfold readNumber
      rw [hr]
      rfl
    exact ⟨_, h1, _, _, rfl, rfl, le_line (by omega), _, h2, ((most : Nat) : Int), rfl, m6, _, _, rfl, rfl, le_line (by omega), 2, _, rfl, fun H' d s' h' => refuse_at (e _ er) m1 m2 m3 rfl s' h'⟩
  refine ⟨_, rfl, v, p, false, I, rfl, hp, _, rfl, ?_⟩
  cases c1 : isNumP p with
  | false => exact itT rfl (itT rfl (bad rfl rfl (readInt_not0 c1)))
  | true =>
    obtain ⟨i, rfl, rfl⟩ : ∃ i, p = .num (some i) ∧ v = .int i := by
      cases hp with
      | num i => exact ⟨i, rfl, rfl⟩
      | pstr s z c => cases z
      | _ => cases c1
    have e0 : readInt 0 most (.num (some i)) = if ((0 : Nat) : Int) ≤ i ∧ i ≤ ((most : Nat) : Int) then some i.toNat else none := rfl
    refine itF rfl ⟨_, rfl, _, _, rfl, rfl, _, rfl, ?_⟩
    refine ite2 (fun c2 => ?_) (fun c2 => ?_)
    · have c2 : 0 ≤ i := of_decide_eq_true c2
      refine ⟨_, rfl, _, _, rfl, rfl, _, rfl, ?_⟩
      cases c3 : decide (i ≤ ((most : Nat) : Int)) with
      | true =>
        have c3 : i ≤ ((most : Nat) : Int) := of_decide_eq_true c3
        refine itF rfl (q i.toNat ?_)
        unfold readNumber
        rw [e0, if_pos ⟨c2, c3⟩]
      | false =>
        have c3 := of_decide_eq_false c3
        exact itT rfl (bad rfl rfl (by rw [e0, if_neg (fun z => c3 z.2)]))
    · have c2 : ¬ 0 ≤ i := fun z => c2 (decide_eq_true z)
      exact ⟨_, rfl, itT rfl (bad rfl rfl (by rw [e0, if_neg (fun z => c2 z.1)]))⟩
theorem int_at {T : TX K mg} {I : Addr → Prop} {H : Hp} {v : V} {p : Plain} {a b n : Nat} (h : PlAt T I H false v p) (e : readInt a b p = some n) : v = intT n ∧ a ≤ n ∧ n ≤ b := by
  cases h with
  | num i =>
    have e0 : readInt a b (.num (some i)) = if ((a : Nat) : Int) ≤ i ∧ i ≤ ((b : Nat) : Int) then some i.toNat else none := rfl
    rw [e0] at e
    by_cases c : ((a : Nat) : Int) ≤ i ∧ i ≤ ((b : Nat) : Int)
    · rw [if_pos c] at e
      have e := Option.some.inj e
      refine ⟨?_, by omega, by omega⟩
      rw [← e, intT, Int.toNat_of_nonneg (by omega)]
    · rw [if_neg c] at e
      cases e
  | undef h => cases e
  | null => cases e
  | bool y => cases e
  | str h hq => cases e
  | pstr s z c => cases z
  | arr i hq l => cases e
  | obj h i hq l => cases e
theorem st_at {T : TX K mg} {I : Addr → Prop} {H : Hp} {v : V} {p : Plain} {n : Nat} {e : Nat × Nat} (h : PlAt T I H false v p) (hr : readState n p = some e) (hn : 1 ≤ n) : StAt K I H v e ∧ e.1 < n ∧ e.2 < n := by
  obtain ⟨a, b, rfl, h1, h2⟩ := st_iff.mp (by rw [hr]; rfl : (readState n p).isSome = true)
  obtain ⟨x, e1⟩ := Option.isSome_iff_exists.mp h1
  obtain ⟨y, e2⟩ := Option.isSome_iff_exists.mp h2
  have hr : ((readInt 0 (n - 1) a).bind fun x => (readInt 0 (n - 1) b).map fun y => (x, y)) = some e := hr
  rw [e1, e2] at hr
  have hr : some (x, y) = some e := hr
  cases hr
  cases h with
  | @arr ad vs l i hq hps =>
    cases hps with
    | cons p1 h =>
      cases h with
      | cons p2 h =>
        cases h
        obtain ⟨q1, _, b1⟩ := int_at p1 e1
        obtain ⟨q2, _, b2⟩ := int_at p2 e2
        subst q1 q2
        exact ⟨⟨ad, rfl, i, hq⟩, by show x < n; omega, by show y < n; omega⟩
theorem chain_at {T : TX K mg} {I : Addr → Prop} {H : Hp} {v : V} {p : Plain} {t : Chain} (h : PlAt T I H false v p) (hr : readChain p = .ok t) : ChAt K I H v t ∧ VC t := by
  by_cases hb : (R7244e.Spec.isArray p && decide (1 ≤ (R7244e.Spec.elements p).length ∧ (R7244e.Spec.elements p).length ≤ 3)) = true
  · rw [Bool.and_eq_true, decide_eq_true_eq] at hb
    cases h with
    | @arr ad vs l i hq hps =>
      obtain ⟨_, h1, h3⟩ := hb
      have h1 : 1 ≤ l.length := h1
      have h3 : l.length ≤ 3 := h3
      rw [chain_good h1 h3] at hr
      have key : ∀ (n : Nat) (vs : List V) (l : List Plain) (i : Nat) (t : Chain), 1 ≤ n → PlsAt T I H false vs l → readAll (readState n) i l = .ok t → Paired (StAt K I H) vs t ∧ t.length = l.length ∧ ∀ e ∈ t, e.1 < n ∧ e.2 < n := by
        intro n vs l i t hn hp
        induction l generalizing vs i t with
        | nil =>
          intro h
          cases hp
          cases h
          exact ⟨.nil, rfl, fun e he => by cases he⟩
        | cons a l ih =>
          intro h
          cases hp with
          | cons pa hp =>
            unfold readAll at h
            cases es : readState n a with
            | none => rw [es] at h; cases h
            | some e =>
              rw [es] at h
              simp only at h
              cases er : readAll (readState n) (i + 1) l with
              | error j => rw [er] at h; cases h
              | ok t' =>
                rw [er] at h
                cases h
                obtain ⟨s1, s2, s3⟩ := st_at pa es hn
                obtain ⟨i1, i2, i3⟩ := ih _ (i + 1) t' hp er
                refine ⟨.cons s1 i1, by simp [i2], fun e' he => ?_⟩
                rcases List.mem_cons.mp he with rfl | he
                · exact ⟨s2, s3⟩
                · exact i3 e' he
      cases er : readAll (readState l.length) 0 l with
      | error j => rw [er] at hr; cases hr
      | ok t' =>
        rw [er] at hr
        cases hr
        obtain ⟨k1, k2, k3⟩ := key _ _ _ _ _ h1 hps er
        exact ⟨⟨ad, vs, rfl, i, hq, k1⟩, ⟨by omega, by omega, by rw [k2]; exact k3⟩⟩
    | pstr s z c => cases z
    | undef h => cases hb.1
    | null => cases hb.1
    | bool y => cases hb.1
    | num i => cases hb.1
    | str h hq => cases hb.1
    | obj h i hq l => cases hb.1
  · rw [chain_bad hb] at hr
    cases hr

end
end SP

/-! ## D6 -/
set_option maxHeartbeats 4000000
namespace SP
open PySem PySem.Spec PyProof.Rows L2 SB
open SS (VC VG R Sz RateOk treeW ratesOf leadsTo)
open R7244e.Spec (reachable recurrentStates hasOneClass canMeet distribution wordProb endState coverage separation unstopped stopProbs survival entry target)
section
variable {P : Program} {w : World} {base : Heap}
variable {K : PySem.W.Frag} {mg : Str → Option Value}

open R7244e.Spec (readInt readState readChain readAll readNumber readBias readStart)
theorem bias_inv {y : Plain} {g : Bias} (h : readBias y = .ok g) : ∃ i n : Int, y = .arr [.num (some i), .num (some n)] ∧ 0 < i ∧ i < n ∧ n ≤ 6 ∧ Nat.gcd i.toNat n.toNat = 1 ∧ g = (i.toNat, n.toNat) := by
  match y, h with
  | .arr [a, b], h =>
    have h : (match readInt 1 5 a, readInt 2 6 b with
      | some i, some n => if i < n ∧ Nat.gcd i n = 1 then (.ok (i, n) : R7244e.Spec.Res Bias) else R7244e.Spec.failType "bias must be a fraction between 0 and 1 with a denominator of at most 6"
      | _, _ => R7244e.Spec.failType "bias must be a fraction between 0 and 1 with a denominator of at most 6") = .ok g := h
    cases e1 : readInt 1 5 a with
    | none => rw [e1] at h; cases h
    | some i =>
      cases e2 : readInt 2 6 b with
      | none => rw [e1, e2] at h; cases h
      | some n =>
        rw [e1, e2] at h
        simp only at h
        by_cases c : i < n ∧ Nat.gcd i n = 1
        · rw [if_pos c] at h
          cases h
          have num : ∀ {p : Plain} {a b k : Nat}, readInt a b p = some k → ∃ z : Int, p = .num (some z) ∧ (a : Int) ≤ z ∧ z ≤ (b : Int) ∧ k = z.toNat := by
            intro p a b k h
            match p, h with
            | .num (some z), h =>
              have e0 : readInt a b (.num (some z)) = if ((a : Nat) : Int) ≤ z ∧ z ≤ ((b : Nat) : Int) then some z.toNat else none := rfl
              rw [e0] at h
              by_cases c : ((a : Nat) : Int) ≤ z ∧ z ≤ ((b : Nat) : Int)
              · rw [if_pos c] at h
                exact ⟨z, rfl, c.1, c.2, (Option.some.inj h).symm⟩
              · rw [if_neg c] at h
                cases h
            | .num none, h => cases h
            | .undef, h => cases h
            | .null, h => cases h
            | .bool _, h => cases h
            | .str _, h => cases h
            | .arr _, h => cases h
            | .obj _, h => cases h
            | .big, h => cases h
          obtain ⟨z1, rfl, a1, a2, rfl⟩ := num e1
          obtain ⟨z2, rfl, b1, b2, rfl⟩ := num e2
          exact ⟨z1, z2, rfl, by omega, by omega, by omega, c.2, rfl⟩
        · rw [if_neg c] at h
          cases h
  | .arr [], h => cases h
  | .arr [_], h => cases h
  | .arr (_ :: _ :: _ :: _), h => cases h
  | .undef, h => cases h
  | .null, h => cases h
  | .bool _, h => cases h
  | .num _, h => cases h
  | .str _, h => cases h
  | .obj _, h => cases h
  | .big, h => cases h
theorem bias_good {i n : Int} (h1 : 0 < i) (h2 : i < n) (h3 : n ≤ 6) (h4 : Nat.gcd i.toNat n.toNat = 1) : readBias (.arr [.num (some i), .num (some n)]) = .ok (i.toNat, n.toNat) := by
  have e1 : readInt 1 5 (.num (some i)) = some i.toNat := by
    have e0 : readInt 1 5 (.num (some i)) = if ((1 : Nat) : Int) ≤ i ∧ i ≤ ((5 : Nat) : Int) then some i.toNat else none := rfl
    rw [e0, if_pos (by omega)]
  have e2 : readInt 2 6 (.num (some n)) = some n.toNat := by
    have e0 : readInt 2 6 (.num (some n)) = if ((2 : Nat) : Int) ≤ n ∧ n ≤ ((6 : Nat) : Int) then some n.toNat else none := rfl
    rw [e0, if_pos (by omega)]
  show (match readInt 1 5 (.num (some i)), readInt 2 6 (.num (some n)) with
      | some i, some n => if i < n ∧ Nat.gcd i n = 1 then (.ok (i, n) : R7244e.Spec.Res Bias) else R7244e.Spec.failType "bias must be a fraction between 0 and 1 with a denominator of at most 6"
      | _, _ => R7244e.Spec.failType "bias must be a fraction between 0 and 1 with a denominator of at most 6") = _
  rw [e1, e2]
  exact if_pos ⟨by omega, h4⟩
theorem bias_err {y : Plain} (h : ∀ g, readBias y ≠ .ok g) : readBias y = .error (R7244e.Spec.wrong "bias must be a fraction between 0 and 1 with a denominator of at most 6") := by
  match y, h with
  | .arr [a, b], h =>
    have e0 : readBias (.arr [a, b]) = (match readInt 1 5 a, readInt 2 6 b with
      | some i, some n => if i < n ∧ Nat.gcd i n = 1 then (.ok (i, n) : R7244e.Spec.Res Bias) else R7244e.Spec.failType "bias must be a fraction between 0 and 1 with a denominator of at most 6"
      | _, _ => R7244e.Spec.failType "bias must be a fraction between 0 and 1 with a denominator of at most 6") := rfl
    rw [e0] at h ⊢
    cases e1 : readInt 1 5 a with
    | none => cases readInt 2 6 b <;> rfl
    | some i =>
      cases e2 : readInt 2 6 b with
      | none => rfl
      | some n =>
        rw [e1, e2] at h
        simp only at h ⊢
        by_cases c : i < n ∧ Nat.gcd i n = 1
        · exact absurd (if_pos c) (h (i, n))
        · rw [if_neg c]
          rfl
  | .arr [], h => rfl
  | .arr [_], h => rfl
  | .arr (_ :: _ :: _ :: _), h => rfl
  | .undef, h => rfl
  | .null, h => rfl
  | .bool _, h => rfl
  | .num _, h => rfl
  | .str _, h => rfl
  | .obj _, h => rfl
  | .big, h => rfl
theorem m_bias : asc "bias must be a fraction between 0 and 1 with a denominator of at most 6" ∧ ("bias must be a fraction between 0 and 1 with a denominator of at most 6" : Str).cps.size ≤ 1000 ∧ ustr "bias must be a fraction between 0 and 1 with a denominator of at most 6" = R7244e.Spec.units "bias must be a fraction between 0 and 1 with a denominator of at most 6" := by unfold asc; decide +kernel
theorem m_start : asc "start must be a state" ∧ ("start must be a state" : Str).cps.size ≤ 1000 ∧ ustr "start must be a state" = R7244e.Spec.units ("start" ++ " must be a state") := by unfold asc; decide +kernel
theorem m_class : asc "chain has more than one recurrent class" ∧ ("chain has more than one recurrent class" : Str).cps.size ≤ 1000 ∧ ustr "chain has more than one recurrent class" = R7244e.Spec.units "chain has more than one recurrent class" := by unfold asc; decide +kernel
theorem args_two {T : TX K mg} {I : Addr → Prop} {H : Hp} {avs : List V} {x y : Plain} {l : List Plain} (h : PlsAt T I H false avs (x :: y :: l)) : ∃ v0 v1 vl, avs = v0 :: v1 :: vl ∧ PlAt T I H false v0 x ∧ PlAt T I H false v1 y ∧ PlsAt T I H false vl l := by
  cases h with
  | cons h1 h =>
    cases h with
    | cons h2 h => exact ⟨_, _, _, rfl, h1, h2, h⟩
theorem at0 {v0 : V} {l : List V} : atI (v0 :: l) 0 = some v0 := atI_nat (j := 0) rfl
theorem at1 {v0 v1 : V} {l : List V} : atI (v0 :: v1 :: l) 1 = some v1 := atI_nat (j := 1) rfl
theorem at2 {v0 v1 v2 : V} {l : List V} : atI (v0 :: v1 :: v2 :: l) 2 = some v2 := atI_nat (j := 2) rfl
theorem at3 {v0 v1 v2 v3 : V} {l : List V} : atI (v0 :: v1 :: v2 :: v3 :: l) 3 = some v3 := atI_nat (j := 3) rfl
theorem fails_same {T : TX K mg} {E : XK} {H H' : Hp} {e : Err} (s : Same H H') (f : Fails T E H e) : Fails T E H' e := fun H2 d s2 h => f H2 d (s.trans s2) h
theorem cb_eq {x y : Plain} {t : Chain} (h : readChain x = .ok t) : readCB x y = match readBias y with | .ok g => .ok (t, g) | .error e => .error e := by
  unfold readCB R7244e.Spec.withChain R7244e.Spec.andThen
  rw [h]
  cases readBias y <;> rfl
theorem cb_err {x y : Plain} {e : Err} (h : readChain x = .error e) : readCB x y = .error e := by
  unfold readCB R7244e.Spec.withChain R7244e.Spec.andThen
  rw [h]
abbrev s_drawn_in : Stmt := topS 53
theorem sc_drawn_in : FnScope ["args", "chain"] ["args"] (defScope s_drawn_in) := SB.sc_by (by decide +kernel)
theorem len_drawn_in {T : TX K mg} : ∀ vs H Q E, sp_drawn_in T vs H Q E → vs.length = (["args"] : List Str).length := by
  rintro _ H Q E ⟨_, _, _, _, _, rfl, _⟩
  rfl
theorem ok_drawn_in (T : TX K mg) (c_chain_in : SB.CalX P w K mg base 4 "chain_in" (sp_chain_in T)) (c_is_fraction : SB.Cal P w K mg base 2 "is_fraction" (sp_is_fraction T)) (c_refuse : SB.CalX P w K mg base 3 "refuse" (sp_refuse T)) (m_Drawn : SB.Mak P w K mg base 1 "Drawn" T.Drawn (sp_Drawn___init__ T))  {f : Addr} {fd : FuncData} (F : Fun K "drawn_in" "drawn_in" s_drawn_in f fd) : FnOk P w K mg base (L2N.CX P w) 5 f fd ["args"] (sp_drawn_in T) := by
  refine SB.okN F sc_drawn_in len_drawn_in (fun cdv A outer s H vs Q E hr h => ⟨_, (pss_cons (ps_set (i := 1) sc_drawn_in.nd rfl (by first | exact Or.inl rfl | exact Or.inr rfl) (SB.pe_cX c_chain_in hr (by decide) rfl (L2N.takes_of rfl rfl rfl rfl) (by exact (pa_cons (pe_ix (SB.kIxL (K := K) rfl) (pv 0) pe_int (fun _ _ => rfl)) pa_nil)))) (pss_cons (ps_if (PW.pt (pw_or (pt_not (pt_val (SB.cal c_is_fraction hr (by decide) rfl (pa_cons (pe_ix (SB.kIxL (K := K) rfl) (pv 0) pe_int (fun _ _ => rfl)) (pa_cons pe_int pa_nil))))) (pw_or1 (pt_not (pt_chain op_lt op_lt pe_int (pe_ix (SB.kIxL (K := K) rfl) (pe_ix (SB.kIxL (K := K) rfl) (pv 0) pe_int (fun _ _ => rfl)) pe_int (fun _ _ => rfl)) (pe_ix (SB.kIxL (K := K) rfl) (pe_ix (SB.kIxL (K := K) rfl) (pv 0) pe_int (fun _ _ => rfl)) pe_int (fun _ _ => rfl))))))) (pss_one (ps_expr (SB.pe_cX c_refuse hr (by decide) rfl (L2N.takes_of rfl rfl rfl rfl) (by exact (pa_cons (pe_glob (v := .int 1) rfl T.gWRONG_KIND ⟨_, rfl⟩) (pa_cons pe_str pa_nil)))))) pss_nil) (pss_one (ps_ret (SB.mak m_Drawn hr (by decide) rfl (pa_cons (pv 1) (pa_cons (pe_ix (SB.kIxL (K := K) rfl) (pv 0) pe_int (fun _ _ => rfl)) pa_nil))))))), ?_⟩)
  obtain ⟨aa, x, y, l, I, rfl, ⟨avs, hq, hps⟩, q, e⟩ := h
  obtain ⟨v0, v1, vl, rfl, p0, p1, _⟩ := args_two hps
  obtain ⟨mb1, mb2, mb3⟩ := m_bias
  refine ⟨_, rfl, aa, _, 0, v0, rfl, rfl, hq, at0, v0, x, I, rfl, p0, fun t et H1 s1 => ?_, fun er ee => e er (cb_err ee)⟩
  obtain ⟨hch, vc⟩ := chain_at p0 et
  have p1s := p1.same s1
  refine ⟨_, rfl, aa, _, 1, v1, rfl, rfl, Same.seq s1 hq, at1, v1, y, 6, I, rfl, p1s, fun H2 s2 => ⟨_, rfl, ?_⟩⟩
  have s12 := s1.trans s2
  have hq2 := seq_same s12 hq
  have bad : ∀ {σ5 : L2.St} {D : Ends}, (∀ g, readBias y ≠ .ok g) → (tDrop (tCallS (sp_refuse T) (WE fun cls d _ H => E cls d H) (tCons (tC (V.int 1)) (tCons (tC (V.str (Str.ofString "bias must be a fraction between 0 and 1 with a denominator of at most 6"))) tNil)))) D σ5 H2 := by
    intro σ5 D h
    have eb := bias_err h
    have ec := cb_eq (y := y) et
    rw [eb] at ec
    exact ⟨1, _, rfl, fun H' d s' h' => refuse_at (e _ ec) mb1 mb2 mb3 rfl (s12.trans s') h'⟩
  cases c1 : isFr 6 y with
  | false =>
    refine itT rfl (itT rfl (bad fun g hg => ?_))
    obtain ⟨i, n, rfl, h1, h2, h3, h4, _⟩ := bias_inv hg
    have : isFr 6 (.arr [.num (some i), .num (some n)]) = decide (0 ≤ i ∧ 1 ≤ n ∧ n ≤ ((6 : Nat) : Int) ∧ Nat.gcd i.toNat n.toNat = 1) := rfl
    rw [this, decide_eq_true ⟨by omega, by omega, by omega, h4⟩] at c1
    cases c1
  | true =>
    have yarr : ∃ l, y = .arr l := by
      cases y <;> first | exact ⟨_, rfl⟩ | cases c1
    obtain ⟨l2, rfl⟩ := yarr
    obtain ⟨i, n, rfl⟩ := isFr_arr c1
    have hf : isFr 6 (.arr [.num (some i), .num (some n)]) = decide (0 ≤ i ∧ 1 ≤ n ∧ n ≤ ((6 : Nat) : Int) ∧ Nat.gcd i.toNat n.toNat = 1) := rfl
    rw [hf] at c1
    obtain ⟨f1, f2, f3, f4⟩ := of_decide_eq_true c1
    have p12 := p1.same s12
    obtain ⟨ba, rfl, hb⟩ : ∃ ba, v1 = .ref ba ∧ SqL K H2 ba [.int i, .int n] := by
      cases p12 with
      | @arr ba vs l i2 hqb hps2 =>
        rw [plsAt_two hps2] at hqb
        exact ⟨ba, rfl, hqb⟩
    refine itF rfl ⟨_, rfl, aa, _, 1, _, rfl, rfl, hq2, at1, ba, _, 0, _, rfl, rfl, hb, rfl, _, _, rfl, rfl, _, rfl, ?_⟩
    refine ite2 (fun c2 => ?_) (fun c2 => ?_)
    · have c2 : 0 < i := of_decide_eq_true c2
      refine ⟨_, rfl, aa, _, 1, _, rfl, rfl, hq2, at1, ba, _, 1, _, rfl, rfl, hb, rfl, _, _, rfl, rfl, _, rfl, ?_⟩
      cases c3 : decide (i < n) with
      | false =>
        have c3 := of_decide_eq_false c3
        refine itT rfl (bad fun g hg => ?_)
        obtain ⟨i', n', e', h1, h2, _⟩ := bias_inv hg
        cases e'
        exact c3 h2
      | true =>
        have c3 : i < n := of_decide_eq_true c3
        have eb := bias_good c2 c3 (by omega) f4
        have ec := cb_eq (y := .arr [.num (some i), .num (some n)]) et
        rw [eb] at ec
        refine itF rfl ⟨_, rfl, _, rfl, aa, _, 1, _, rfl, rfl, hq2, at1, fun xa dx hx hdx nd => ⟨xa, dx, v0, ba, (i.toNat, n.toNat), rfl, upd_same, ?_, (by show i.toNat ≤ n.toNat; omega), fun H3 ws c4 hws hx3 hws3 => ⟨rfl, ?_⟩⟩⟩
        · have sm : Same H2 (upd (upd H2 dx (.own xa)) xa (.ins T.Drawn dx [])) := fun b u e => by rw [upd_ne (ne_of_none e hx), upd_ne (ne_of_none e hdx)]; exact e
          have eI : [intT i.toNat, intT n.toNat] = [V.int i, V.int n] := by rw [intT, intT, Int.toNat_of_nonneg (by omega), Int.toNat_of_nonneg (by omega)]
          show SqL K _ ba [intT i.toNat, intT n.toNat]
          rw [eI]
          exact seq_same sm hb
        · have s3 := mk_same hx hdx c4
          have s03 := s12.trans s3
          refine q t _ ec H3 (.ref xa) s03 ⟨xa, dx, v0, ws, rfl, hx3, (hch.same s03).mono (fun b hb => .inl hb), .inr ⟨s12.free (free_upd (free_upd hws)), by rw [hws3]; simp⟩, SqL.of hws3⟩
    · have c2 : ¬ 0 < i := fun z => c2 (decide_eq_true z)
      refine ⟨_, rfl, itT rfl (bad fun g hg => ?_)⟩
      obtain ⟨i', n', e', h1, h2, _⟩ := bias_inv hg
      cases e'
      exact c2 h1
theorem args_three {T : TX K mg} {I : Addr → Prop} {H : Hp} {avs : List V} {x y z : Plain} {l : List Plain} (h : PlsAt T I H false avs (x :: y :: z :: l)) : ∃ v0 v1 v2 vl, avs = v0 :: v1 :: v2 :: vl ∧ PlAt T I H false v0 x ∧ PlAt T I H false v1 y ∧ PlAt T I H false v2 z ∧ PlsAt T I H false vl l := by
  obtain ⟨v0, v1, vl, e, h1, h2, h⟩ := args_two h
  cases h with
  | cons h3 h => exact ⟨v0, v1, _, _, e, h1, h2, h3, h⟩
theorem cb_inv {x y : Plain} {t : Chain} {g : Bias} (h : readCB x y = .ok (t, g)) : readChain x = .ok t ∧ readBias y = .ok g ∧ VG g := by
  cases e1 : readChain x with
  | error e => rw [cb_err e1] at h; cases h
  | ok t' =>
    rw [cb_eq e1] at h
    cases e2 : readBias y with
    | error e => rw [e2] at h; cases h
    | ok g' =>
      rw [e2] at h
      cases h
      obtain ⟨i, n, _, h1, h2, h3, h4, rfl⟩ := bias_inv e2
      exact ⟨rfl, rfl, ⟨by show 0 < i.toNat; omega, by show i.toNat < n.toNat; omega, by show n.toNat ≤ 6; omega, h4⟩⟩
theorem cs_eq {x y z : Plain} : readCS x y z = match readCB x y with
    | .ok (t, g) => (match readInt 0 (t.length - 1) z with
      | some p => .ok (t, g, p)
      | none => .error (R7244e.Spec.beyond ("start" ++ " must be a state")))
    | .error e => .error e := by
  unfold readCS readCB R7244e.Spec.withChain R7244e.Spec.andThen
  cases readChain x with
  | error e => rfl
  | ok t =>
    cases readBias y with
    | error e => rfl
    | ok g =>
      simp only [readStart, R7244e.Spec.failRange]
      cases readInt 0 (t.length - 1) z <;> rfl
abbrev s_started_in : Stmt := topS 54
theorem sc_started_in : FnScope ["args", "told"] ["args"] (defScope s_started_in) := SB.sc_by (by decide +kernel)
theorem len_started_in {T : TX K mg} : ∀ vs H Q E, sp_started_in T vs H Q E → vs.length = (["args"] : List Str).length := by
  rintro _ H Q E ⟨_, _, _, _, _, _, rfl, _⟩
  rfl
theorem ok_started_in (T : TX K mg) (c_drawn_in : SB.CalX P w K mg base 5 "drawn_in" (sp_drawn_in T)) (c_is_state_number : SB.Cal P w K mg base 2 "is_state_number" (sp_is_state_number T)) (c_refuse : SB.CalX P w K mg base 3 "refuse" (sp_refuse T))  {f : Addr} {fd : FuncData} (F : Fun K "started_in" "started_in" s_started_in f fd) : FnOk P w K mg base (L2N.CX P w) 6 f fd ["args"] (sp_started_in T) := by
  refine SB.okN F sc_started_in len_started_in (fun cdv A outer s H vs Q E hr h => ⟨_, (pss_cons (ps_set (i := 1) sc_started_in.nd rfl (by first | exact Or.inl rfl | exact Or.inr rfl) (SB.pe_cX c_drawn_in hr (by decide) rfl (L2N.takes_of rfl rfl rfl rfl) (by exact (pa_cons (pv 0) pa_nil)))) (pss_cons (ps_if (pt_not (pt_val (SB.cal c_is_state_number hr (by decide) rfl (pa_cons (pe_ix (SB.kIxL (K := K) rfl) (pv 0) pe_int (fun _ _ => rfl)) (pa_cons (pe_callB (SB.kLen (K := K) rfl) (by rfl) T.b_len PySem.boot_len (pa_cons (SB.kFld (K := K) rfl (pv 1) rfl) pa_nil)) pa_nil))))) (pss_one (ps_expr (SB.pe_cX c_refuse hr (by decide) rfl (L2N.takes_of rfl rfl rfl rfl) (by exact (pa_cons (pe_glob (v := .int 2) rfl T.gOUT_OF_RANGE ⟨_, rfl⟩) (pa_cons pe_str pa_nil)))))) pss_nil) (pss_one (ps_ret (pv 1))))), ?_⟩)
  obtain ⟨aa, x, y, z, l, I, rfl, ⟨avs, hq, hps⟩, q, e⟩ := h
  obtain ⟨v0, v1, v2, vl, rfl, p0, p1, p2, pl⟩ := args_three hps
  obtain ⟨ms1, ms2, ms3⟩ := m_start
  have ce := cs_eq (x := x) (y := y) (z := z)
  refine ⟨_, rfl, aa, x, y, z :: l, I, rfl, ⟨_, hq, hps⟩, fun t g et H1 r s1 hd => ?_, fun er ee => e er (by rw [ce, ee])⟩
  rw [et] at ce
  simp only at ce
  obtain ⟨ec, eb, vg⟩ := cb_inv et
  obtain ⟨_, vc⟩ := chain_at p0 ec
  obtain ⟨da, ddx, dc, dws, rfl, hda, hch, hdi, hdw⟩ := id hd
  obtain ⟨ca, cvs, rfl, _, hcl, hlen, _⟩ := hch.get vc
  have hq1 := seq_same s1 hq
  have hn := vc.pos
  refine ⟨_, rfl, aa, _, 2, v2, rfl, rfl, hq1, at2, _, rfl, da, T.Drawn, _, _, _, rfl, hda, T.clDrawn, T.nDrawn_chain, lkDrawn_chain, ca, cvs, rfl, .inl hcl, v2, z, t.length, I, by rw [hlen]; rfl, p2.same s1, hn, _, rfl, ?_⟩
  cases er : readInt 0 (t.length - 1) z with
  | some p =>
    rw [er] at ce
    exact itF rfl ⟨_, rfl, q t g p ce H1 _ s1 hd⟩
  | none =>
    rw [er] at ce
    exact itT rfl ⟨2, _, rfl, fun H' d s' h' => refuse_at (e _ ce) ms1 ms2 ms3 rfl (s1.trans s') h'⟩
theorem ru_eq {x y z : Plain} : readRu x y z = match readCS x y z with
    | .ok (t, g, p) => (match R7244e.Spec.stationaryOf t g with
      | some l => .ok ⟨t, g, l, p⟩
      | none => .error (R7244e.Spec.beyond "chain has more than one recurrent class"))
    | .error e => .error e := by
  unfold readRu readCS R7244e.Spec.withStationary R7244e.Spec.withChain R7244e.Spec.andThen
  cases readChain x with
  | error e => rfl
  | ok t =>
    cases readBias y with
    | error e => rfl
    | ok g =>
      simp only [readStart, R7244e.Spec.failRange]
      cases readInt 0 (t.length - 1) z with
      | none => rfl
      | some p =>
        simp only
        cases R7244e.Spec.stationaryOf t g <;> rfl
theorem cs_inv {x y z : Plain} {t : Chain} {g : Bias} {p : Nat} (h : readCS x y z = .ok (t, g, p)) : readCB x y = .ok (t, g) ∧ readInt 0 (t.length - 1) z = some p := by
  rw [cs_eq] at h
  cases e1 : readCB x y with
  | error e => rw [e1] at h; cases h
  | ok tg =>
    obtain ⟨t', g'⟩ := tg
    rw [e1] at h
    simp only at h
    cases e2 : readInt 0 (t'.length - 1) z with
    | none => rw [e2] at h; cases h
    | some p' =>
      rw [e2] at h
      cases h
      exact ⟨rfl, e2⟩
theorem stat_eq {t : Chain} {g : Bias} (vc : VC t) (vg : VG g) : R7244e.Spec.stationaryOf t g = if hasOneClass t = true then some (ratesOf t g) else none := by
  by_cases h : hasOneClass t = true
  · rw [if_pos h]
    exact (SS.rate_ok vc vg h).st
  · rw [if_neg h]
    unfold R7244e.Spec.stationaryOf
    exact if_neg h
abbrev s_rule_in : Stmt := topS 55
theorem sc_rule_in : FnScope ["args", "told"] ["args"] (defScope s_rule_in) := SB.sc_by (by decide +kernel)
theorem len_rule_in {T : TX K mg} : ∀ vs H Q E, sp_rule_in T vs H Q E → vs.length = (["args"] : List Str).length := by
  rintro _ H Q E ⟨_, _, _, _, _, _, rfl, _⟩
  rfl
theorem ok_rule_in (T : TX K mg) (c_has_single_class : SB.Cal P w K mg base 3 "has_single_class" (sp_has_single_class T)) (c_refuse : SB.CalX P w K mg base 3 "refuse" (sp_refuse T)) (c_started_in : SB.CalX P w K mg base 6 "started_in" (sp_started_in T)) (m_Rule : SB.Mak P w K mg base 4 "Rule" T.Rule (sp_Rule___init__ T))  {f : Addr} {fd : FuncData} (F : Fun K "rule_in" "rule_in" s_rule_in f fd) : FnOk P w K mg base (L2N.CX P w) 7 f fd ["args"] (sp_rule_in T) := by
  refine SB.okN F sc_rule_in len_rule_in (fun cdv A outer s H vs Q E hr h => ⟨_, (pss_cons (ps_set (i := 1) sc_rule_in.nd rfl (by first | exact Or.inl rfl | exact Or.inr rfl) (SB.pe_cX c_started_in hr (by decide) rfl (L2N.takes_of rfl rfl rfl rfl) (by exact (pa_cons (pv 0) pa_nil)))) (pss_cons (ps_if (pt_not (pt_val (SB.cal c_has_single_class hr (by decide) rfl (pa_cons (SB.kFld (K := K) rfl (pv 1) rfl) pa_nil)))) (pss_one (ps_expr (SB.pe_cX c_refuse hr (by decide) rfl (L2N.takes_of rfl rfl rfl rfl) (by exact (pa_cons (pe_glob (v := .int 2) rfl T.gOUT_OF_RANGE ⟨_, rfl⟩) (pa_cons pe_str pa_nil)))))) pss_nil) (pss_one (ps_ret (SB.mak m_Rule hr (by decide) rfl (pa_cons (pv 1) (pa_cons (pe_ix (SB.kIxL (K := K) rfl) (pv 0) pe_int (fun _ _ => rfl)) pa_nil))))))), ?_⟩)
  obtain ⟨aa, x, y, z, l, I, rfl, ⟨avs, hq, hps⟩, q, e⟩ := h
  obtain ⟨v0, v1, v2, vl, rfl, p0, p1, p2, pl⟩ := args_three hps
  obtain ⟨ms1, ms2, ms3⟩ := m_class
  have ce := ru_eq (x := x) (y := y) (z := z)
  refine ⟨_, rfl, aa, x, y, z, l, I, rfl, ⟨_, hq, hps⟩, fun t g p et H1 r s1 hd => ?_, fun er ee => e er (by rw [ce, ee])⟩
  rw [et] at ce
  simp only at ce
  obtain ⟨ecb, ez⟩ := cs_inv et
  obtain ⟨ec, eb, vg⟩ := cb_inv ecb
  obtain ⟨_, vc⟩ := chain_at p0 ec
  obtain ⟨da, ddx, dc, dws, rfl, hda, hch, hdi, hdw⟩ := id hd
  obtain ⟨e2, _, hpl⟩ := int_at p2 ez
  subst e2
  have vp := vc.pos
  rw [stat_eq vc vg] at ce
  refine ⟨_, rfl, da, T.Drawn, _, _, _, rfl, hda, T.clDrawn, T.nDrawn_chain, lkDrawn_chain, dc, t, rfl, vc, hch.mono (fun _ _ => trivial), fun H2 s2 => ⟨_, rfl, ?_⟩⟩
  cases h1 : hasOneClass t with
  | true =>
    rw [if_pos h1] at ce
    simp only at ce
    have s12 := s1.trans s2
    have vr : VR ⟨t, g, ratesOf t g, p⟩ := ⟨vc, vg, (by show p < t.length; omega), SS.rate_ok vc vg h1⟩
    refine itF rfl ⟨_, rfl, _, rfl, aa, _, 2, _, rfl, rfl, seq_same s12 hq, at2, fun xr dx hx hdx nd => ⟨xr, dx, .ref da, New I H H1, t, g, p, rfl, upd_same, vr, ?_, fun H3 cd c3 hcd hR => ⟨rfl, ?_⟩⟩⟩
    · have sm : Same H2 (upd (upd H2 dx (.own xr)) xr (.ins T.Rule dx [])) := fun b u e => by rw [upd_ne (ne_of_none e hx), upd_ne (ne_of_none e hdx)]; exact e
      exact (hd.same s2).same sm
    · have s3 := mk_same hx hdx c3
      have s03 := s12.trans s3
      refine q _ ce H3 _ cd s03 (s12.free (free_upd (free_upd hcd))) (hR.mono fun b hb => ?_)
      rcases hb with (hb | hb) | hb
      · exact .inl hb
      · exact .inr ⟨hb.1, fun z => hb.2 (s2.free (s3.free z))⟩
      · exact .inr ⟨s12.free (free_upd (free_upd hb.1)), hb.2⟩
  | false =>
    rw [if_neg (by rw [h1]; decide)] at ce
    simp only at ce
    exact itT rfl ⟨2, _, rfl, fun H' d s' h' => refuse_at (e _ ce) ms1 ms2 ms3 rfl ((s1.trans s2).trans s') h'⟩
abbrev s_rule_with_steps : Stmt := topS 61
theorem sc_rule_with_steps : FnScope ["args", "told"] ["args"] (defScope s_rule_with_steps) := SB.sc_by (by decide +kernel)
theorem len_rule_with_steps {T : TX K mg} : ∀ vs H Q E, sp_rule_with_steps T vs H Q E → vs.length = (["args"] : List Str).length := by
  rintro _ H Q E ⟨_, _, _, _, _, _, _, rfl, _⟩
  rfl
theorem ok_rule_with_steps (T : TX K mg) (c_check_steps : SB.CalX P w K mg base 4 "check_steps" (sp_check_steps T)) (c_rule_in : SB.CalX P w K mg base 7 "rule_in" (sp_rule_in T))  {f : Addr} {fd : FuncData} (F : Fun K "rule_with_steps" "rule_with_steps" s_rule_with_steps f fd) : FnOk P w K mg base (L2N.CX P w) 8 f fd ["args"] (sp_rule_with_steps T) := by
  refine SB.okN F sc_rule_with_steps len_rule_with_steps (fun cdv A outer s H vs Q E hr h => ⟨_, (pss_cons (ps_set (i := 1) sc_rule_with_steps.nd rfl (by first | exact Or.inl rfl | exact Or.inr rfl) (SB.pe_cX c_rule_in hr (by decide) rfl (L2N.takes_of rfl rfl rfl rfl) (by exact (pa_cons (pv 0) pa_nil)))) (pss_cons (ps_expr (SB.pe_cX c_check_steps hr (by decide) rfl (L2N.takes_of rfl rfl rfl rfl) (by exact (pa_cons (pe_ix (SB.kIxL (K := K) rfl) (pv 0) pe_int (fun _ _ => rfl)) (pa_cons pe_str (pa_cons (pe_glob (v := .int 8) rfl T.gMOST_STEPS ⟨_, rfl⟩) pa_nil)))))) (pss_one (ps_ret (pv 1))))), ?_⟩)
  obtain ⟨aa, x, y, z, u, l, I, rfl, ⟨avs, hq, hps⟩, q, e⟩ := h
  obtain ⟨v0, v1, v2, vl, rfl, p0, p1, p2, pl⟩ := args_three hps
  cases pl with
  | @cons v3 _ vl _ p3 pl =>
  refine ⟨_, rfl, aa, x, y, z, u :: l, I, rfl, ⟨_, hq, hps⟩, fun R eR H1 r cd s1 hcd hR => ?_, fun er ee => e er (.inl ee)⟩
  refine ⟨_, rfl, aa, _, 3, _, rfl, rfl, seq_same s1 hq, at3, v3, u, "steps", 8, I, rfl, p3.same s1, .inl ⟨rfl, rfl⟩, fun n en => ⟨_, rfl, q R n eR en H1 r cd s1 hcd hR⟩, fun er ee => fails_same s1 (e er (.inr ⟨R, eR, ee⟩))⟩

end
end SP

/-! ## SP8 -/
set_option maxHeartbeats 4000000
namespace SP
open PySem PySem.Spec PyProof.Rows L2 SB
open SS (VC VG R Sz RateOk treeW ratesOf leadsTo)
abbrev SWorld := R7244e.Spec.World
section
variable {K : PySem.W.Frag} {mg : Str → Option Value} (T : TX K mg)
/-- a slot of a walk, of an enumeration, and what is its own -/
def SlW (I : Addr → Prop) (H : Hp) (v : V) (o : Option Walker) (M : Addr → Prop) : Prop := match o with
  | none => v = .non ∧ ∀ b, ¬ M b
  | some h => ∃ (a cd : Addr) (R : Ru), VR R ∧ WkAt T I H v a cd R h ∧ ∀ b, M b ↔ (b = a ∨ b = cd)
def SlE (I : Addr → Prop) (H : Hp) (v : V) (o : Option Enum) (M : Addr → Prop) : Prop := match o with
  | none => v = .non ∧ ∀ b, ¬ M b
  | some h => ∃ (a cd rr : Addr) (R : Ru), VR R ∧ EnAt T I H v a cd rr R h ∧ ∀ b, M b ↔ (b = a ∨ b = cd ∨ b = rr)
/-- the slots lie at s -/
structure WoF (I : Addr → Prop) (X : Addr → HO → Prop) (H : Hp) (s : Addr) (w : SWorld) (dx lw le : Addr) (ws es : List V) (MW ME : Nat → Addr → Prop) : Prop where
  f_s : H s = some (.ins T.Slots dx [("walks", .ref lw), ("enumerations", .ref le)])
  f_lw : H lw = some (.lst ws)
  f_le : H le = some (.lst es)
  lenW : ws.length = 3 ∧ w.walkers.length = 3
  lenE : es.length = 3 ∧ w.enumerations.length = 3
  nI : ¬ I lw ∧ ¬ I le ∧ lw ≠ le
  al : Al I H
  f_w : ∀ i, i < 3 → ∃ v, ws[i]? = some v ∧ SlW T I H v (R7244e.Spec.walkerAt w i) (MW i)
  f_e : ∀ i, i < 3 → ∃ v, es[i]? = some v ∧ SlE T I H v (R7244e.Spec.enumerationAt w i) (ME i)
  ww : ∀ i j b, MW i b → MW j b → i = j
  ee : ∀ i j b, ME i b → ME j b → i = j
  we : ∀ i j b, MW i b → ¬ ME j b
  wl : ∀ i b, MW i b → b ≠ lw ∧ b ≠ le ∧ b ≠ s
  el : ∀ i b, ME i b → b ≠ lw ∧ b ≠ le ∧ b ≠ s
  x : ∀ b o, X b o → H b = some o ∧ ¬ I b ∧ b ≠ lw ∧ b ≠ le ∧ b ≠ s ∧ ∀ i, i < 3 → ¬ MW i b ∧ ¬ ME i b
def WoAt (I : Addr → Prop) (X : Addr → HO → Prop) (H : Hp) (s : Addr) (w : SWorld) : Prop := ∃ dx lw le ws es MW ME, WoF T I X H s w dx lw le ws es MW ME
def sp_door (d : Nat) : Sp := fun vs H Q E => ∃ (s aa : Addr) (l : List Plain) (w : SWorld) (c : R7244e.Spec.Call) (I : Addr → Prop) (X : Addr → HO → Prop), vs = [.ref s, .ref aa] ∧ WoAt T I X H s w ∧ ArgsAt T I H aa l ∧ l.length = sizes.getD d 0 ∧ Rust.callOf d l = some c ∧ R7244e.Spec.input w c = true ∧
  (∀ p, (R7244e.Spec.runCall w c).2 = .ret p → ∀ H' I' J r, WoAt T I' X H' s (R7244e.Spec.runCall w c).1 → PlAt T J H' true r p → Al J H' → Q r H') ∧
  (∀ e, (R7244e.Spec.runCall w c).2 = .fail e → ∀ H' I' d, WoAt T I' X H' s (R7244e.Spec.runCall w c).1 → ErrAt H' d e → E (.ref T.Refused) (some d) H')
end
section
variable {K : PySem.W.Frag} {mg : Str → Option Value} {T : TX K mg} {I : Addr → Prop} {H H' : Hp}
theorem WkAt.same {v : V} {a cd : Addr} {R : Ru} {h : Walker} (s : Same H H') (q : WkAt T I H v a cd R h) : WkAt T I H' v a cd R h := by
  obtain ⟨w, st, fi, h1, h2⟩ := q
  exact ⟨w, st, fi, h1.same s, h2⟩
theorem SlW.same {v : V} {o : Option Walker} {M : Addr → Prop} (s : Same H H') (q : SlW T I H v o M) : SlW T I H' v o M := by
  cases o with
  | none => exact q
  | some h =>
    obtain ⟨a, cd, R, vr, q, m⟩ := q
    exact ⟨a, cd, R, vr, q.same s, m⟩
theorem SlE.same {v : V} {o : Option Enum} {M : Addr → Prop} (s : Same H H') (q : SlE T I H v o M) : SlE T I H' v o M := by
  cases o with
  | none => exact q
  | some h =>
    obtain ⟨a, cd, rr, R, vr, q, m⟩ := q
    exact ⟨a, cd, rr, R, vr, q.same s, m⟩
theorem WoAt.same {X : Addr → HO → Prop} {s : Addr} {w : SWorld} (sm : Same H H') (h : WoAt T I X H s w) : WoAt T I X H' s w := by
  obtain ⟨dx, lw, le, ws, es, MW, ME, f⟩ := h
  exact ⟨dx, lw, le, ws, es, MW, ME, ⟨sm _ _ f.f_s, sm _ _ f.f_lw, sm _ _ f.f_le, f.lenW, f.lenE, f.nI, al_same sm f.al, fun i hi => (f.f_w i hi).imp fun v q => ⟨q.1, q.2.same sm⟩, fun i hi => (f.f_e i hi).imp fun v q => ⟨q.1, q.2.same sm⟩, f.ww, f.ee, f.we, f.wl, f.el, fun b o z => ⟨sm _ _ (f.x b o z).1, (f.x b o z).2⟩⟩⟩
end
end SP

/-! ## SP9 -/
set_option maxHeartbeats 4000000
namespace SP
open PySem PySem.Spec PyProof.Rows L2 SB
section
variable {K : PySem.W.Frag} {mg : Str → Option Value}
theorem len_door {T : TX K mg} {d : Nat} : ∀ vs H Q E, sp_door T d vs H Q E → vs.length = (["slots", "args"] : List Str).length := by
  rintro _ H Q E ⟨_, _, _, _, _, _, _, rfl, _⟩
  rfl
abbrev sp_stationary_distribution (T : TX K mg) : Sp := sp_door T 0
theorem len_stationary_distribution {T : TX K mg} : ∀ vs H Q E, sp_stationary_distribution T vs H Q E → vs.length = (["slots", "args"] : List Str).length := len_door
abbrev sp_distribution (T : TX K mg) : Sp := sp_door T 1
theorem len_distribution {T : TX K mg} : ∀ vs H Q E, sp_distribution T vs H Q E → vs.length = (["slots", "args"] : List Str).length := len_door
abbrev sp_is_ergodic (T : TX K mg) : Sp := sp_door T 2
theorem len_is_ergodic {T : TX K mg} : ∀ vs H Q E, sp_is_ergodic T vs H Q E → vs.length = (["slots", "args"] : List Str).length := len_door
abbrev sp_separation (T : TX K mg) : Sp := sp_door T 3
theorem len_separation {T : TX K mg} : ∀ vs H Q E, sp_separation T vs H Q E → vs.length = (["slots", "args"] : List Str).length := len_door
abbrev sp_stop_probabilities (T : TX K mg) : Sp := sp_door T 4
theorem len_stop_probabilities {T : TX K mg} : ∀ vs H Q E, sp_stop_probabilities T vs H Q E → vs.length = (["slots", "args"] : List Str).length := len_door
abbrev sp_unstopped_probabilities (T : TX K mg) : Sp := sp_door T 5
theorem len_unstopped_probabilities {T : TX K mg} : ∀ vs H Q E, sp_unstopped_probabilities T vs H Q E → vs.length = (["slots", "args"] : List Str).length := len_door
abbrev sp_mixing_time (T : TX K mg) : Sp := sp_door T 6
theorem len_mixing_time {T : TX K mg} : ∀ vs H Q E, sp_mixing_time T vs H Q E → vs.length = (["slots", "args"] : List Str).length := len_door
abbrev sp_walk_new (T : TX K mg) : Sp := sp_door T 7
theorem len_walk_new {T : TX K mg} : ∀ vs H Q E, sp_walk_new T vs H Q E → vs.length = (["slots", "args"] : List Str).length := len_door
abbrev sp_walk_next (T : TX K mg) : Sp := sp_door T 8
theorem len_walk_next {T : TX K mg} : ∀ vs H Q E, sp_walk_next T vs H Q E → vs.length = (["slots", "args"] : List Str).length := len_door
abbrev sp_walk_signal (T : TX K mg) : Sp := sp_door T 9
theorem len_walk_signal {T : TX K mg} : ∀ vs H Q E, sp_walk_signal T vs H Q E → vs.length = (["slots", "args"] : List Str).length := len_door
abbrev sp_walk_finish (T : TX K mg) : Sp := sp_door T 10
theorem len_walk_finish {T : TX K mg} : ∀ vs H Q E, sp_walk_finish T vs H Q E → vs.length = (["slots", "args"] : List Str).length := len_door
abbrev sp_walk_close (T : TX K mg) : Sp := sp_door T 11
theorem len_walk_close {T : TX K mg} : ∀ vs H Q E, sp_walk_close T vs H Q E → vs.length = (["slots", "args"] : List Str).length := len_door
abbrev sp_enumeration_new (T : TX K mg) : Sp := sp_door T 12
theorem len_enumeration_new {T : TX K mg} : ∀ vs H Q E, sp_enumeration_new T vs H Q E → vs.length = (["slots", "args"] : List Str).length := len_door
abbrev sp_enumeration_next (T : TX K mg) : Sp := sp_door T 13
theorem len_enumeration_next {T : TX K mg} : ∀ vs H Q E, sp_enumeration_next T vs H Q E → vs.length = (["slots", "args"] : List Str).length := len_door
abbrev sp_enumeration_signal (T : TX K mg) : Sp := sp_door T 14
theorem len_enumeration_signal {T : TX K mg} : ∀ vs H Q E, sp_enumeration_signal T vs H Q E → vs.length = (["slots", "args"] : List Str).length := len_door
abbrev sp_enumeration_finish (T : TX K mg) : Sp := sp_door T 15
theorem len_enumeration_finish {T : TX K mg} : ∀ vs H Q E, sp_enumeration_finish T vs H Q E → vs.length = (["slots", "args"] : List Str).length := len_door
abbrev sp_enumeration_collect (T : TX K mg) : Sp := sp_door T 16
theorem len_enumeration_collect {T : TX K mg} : ∀ vs H Q E, sp_enumeration_collect T vs H Q E → vs.length = (["slots", "args"] : List Str).length := len_door
abbrev sp_enumeration_together (T : TX K mg) : Sp := sp_door T 17
theorem len_enumeration_together {T : TX K mg} : ∀ vs H Q E, sp_enumeration_together T vs H Q E → vs.length = (["slots", "args"] : List Str).length := len_door
abbrev sp_enumeration_close (T : TX K mg) : Sp := sp_door T 18
theorem len_enumeration_close {T : TX K mg} : ∀ vs H Q E, sp_enumeration_close T vs H Q E → vs.length = (["slots", "args"] : List Str).length := len_door
end
end SP

/-! ## E1 -/
set_option maxHeartbeats 4000000
namespace SP
open PySem PySem.Spec PyProof.Rows L2 SB
open SS (VC VG R Sz RateOk treeW ratesOf leadsTo)
open R7244e.Spec (reachable recurrentStates hasOneClass canMeet distribution wordProb endState coverage separation unstopped stopProbs survival entry target)
section
variable {P : Program} {w : World} {base : Heap}
variable {K : PySem.W.Frag} {mg : Str → Option Value}

open R7244e.Spec (readInt readState readChain readAll readNumber readBias readStart runCall)
/-- at most so many arguments, all of them here -/
theorem call_of {d : Nat} {l : List Plain} {c : R7244e.Spec.Call} (h : Rust.callOf d l = some c) : True := trivial
abbrev s_is_ergodic : Stmt := topS 60
theorem sc_is_ergodic : FnScope ["slots", "args", "chain"] ["slots", "args"] (defScope s_is_ergodic) := SB.sc_by (by decide +kernel)
theorem ok_is_ergodic (T : TX K mg) (c_chain_in : SB.CalX P w K mg base 4 "chain_in" (sp_chain_in T)) (c_has_single_class : SB.Cal P w K mg base 3 "has_single_class" (sp_has_single_class T)) (c_is_periodic : SB.Cal P w K mg base 3 "is_periodic" (sp_is_periodic T))  {f : Addr} {fd : FuncData} (F : Fun K "is_ergodic" "is_ergodic" s_is_ergodic f fd) : FnOk P w K mg base (L2N.CX P w) 5 f fd ["slots", "args"] (sp_is_ergodic T) := by
  refine SB.okN F sc_is_ergodic len_is_ergodic (fun cdv A outer s H vs Q E hr h => ⟨_, (pss_cons (ps_set (i := 2) sc_is_ergodic.nd rfl (by first | exact Or.inl rfl | exact Or.inr rfl) (SB.pe_cX c_chain_in hr (by decide) rfl (L2N.takes_of rfl rfl rfl rfl) (by exact (pa_cons (pe_ix (SB.kIxL (K := K) rfl) (pv 1) pe_int (fun _ _ => rfl)) pa_nil)))) (pss_one (ps_ret (pe_and (SB.cal c_has_single_class hr (by decide) rfl (pa_cons (pv 2) pa_nil)) (pe_one (pe_not (SB.cal c_is_periodic hr (by decide) rfl (pa_cons (pv 2) pa_nil)))))))), ?_⟩)
  obtain ⟨s0, aa, l, w, c, I, X, rfl, hW, ⟨avs, hq, hps⟩, hl, hc, hin, q, e⟩ := h
  obtain ⟨x, rfl⟩ : ∃ x, l = [x] := by
    match l, hl with
    | [x], _ => exact ⟨x, rfl⟩
  have ec : c = .fn (.ergodic x) := by
    have h : Rust.callOf 2 [x] = some (.fn (.ergodic x)) := rfl
    rw [h] at hc
    exact (Option.some.inj hc).symm
  subst ec
  obtain ⟨v0, rfl, p0⟩ : ∃ v0, avs = [v0] ∧ PlAt T I H false v0 x := by
    cases hps with
    | cons h1 h => cases h; exact ⟨_, rfl, h1⟩
  have er : ∀ t, readChain x = .ok t → (runCall w (.fn (.ergodic x))).2 = .ret (.bool (R7244e.Spec.isErgodic t)) := by
    intro t et
    show R7244e.Spec.answer id (R7244e.Spec.ergodicFn x) = _
    unfold R7244e.Spec.ergodicFn R7244e.Spec.andThen
    rw [et]
    rfl
  have ee : ∀ er, readChain x = .error er → (runCall w (.fn (.ergodic x))).2 = .fail er := by
    intro er et
    show R7244e.Spec.answer id (R7244e.Spec.ergodicFn x) = _
    unfold R7244e.Spec.ergodicFn R7244e.Spec.andThen
    rw [et]
    rfl
  refine ⟨_, rfl, aa, _, 0, v0, rfl, rfl, hq, at0, v0, x, I, rfl, p0, fun t et H1 s1 => ?_, fun er' et H' d s' h' => e _ (ee er' et) H' I d (hW.same s') h'⟩
  obtain ⟨hch, vc⟩ := chain_at p0 et
  have q1 := q _ (er t et)
  have go : ∀ (H2 : Hp) (b : Bool), Same H1 H2 → b = R7244e.Spec.isErgodic t → Q (.bl b) H2 := by
    intro H2 b s2 eb
    subst eb
    exact q1 H2 I (fun _ => False) _ (hW.same (s1.trans s2)) (.bool _) (fun _ h => h.elim)
  have ei : R7244e.Spec.isErgodic t = (hasOneClass t && (recurrentStates t).all fun p => (recurrentStates t).all (canMeet t p)) := rfl
  refine ⟨_, rfl, v0, t, rfl, vc, (hch.same s1).mono (fun _ _ => trivial), fun H2 s2 => ⟨_, rfl, ?_⟩⟩
  cases h1 : hasOneClass t with
  | true =>
    rw [h1] at ei
    refine itT rfl ⟨_, rfl, v0, t, rfl, vc, (hch.same (s1.trans s2)).mono (fun _ _ => trivial), fun H3 s3 => ⟨_, rfl, ?_⟩⟩
    refine go H3 _ (s2.trans s3) ?_
    rw [ei, Bool.not_not, Bool.true_and]
  | false =>
    rw [h1] at ei
    exact itF rfl (go H2 false s2 (by rw [ei]; rfl))
theorem args_n1 {T : TX K mg} {I : Addr → Prop} {H : Hp} {avs : List V} {x : Plain} {l : List Plain} (h : PlsAt T I H false avs (x :: l)) : ∃ v vl, avs = v :: vl ∧ PlAt T I H false v x ∧ PlsAt T I H false vl l := by
  cases h with
  | cons h1 h => exact ⟨_, _, rfl, h1, h⟩
abbrev s_stationary_distribution : Stmt := topS 58
theorem sc_stationary_distribution : FnScope ["slots", "args", "own"] ["slots", "args"] (defScope s_stationary_distribution) := SB.sc_by (by decide +kernel)
theorem ok_stationary_distribution (T : TX K mg) (c_drawn_in : SB.CalX P w K mg base 5 "drawn_in" (sp_drawn_in T)) (c_has_single_class : SB.Cal P w K mg base 3 "has_single_class" (sp_has_single_class T)) (c_told_fractions : SB.Cal P w K mg base 1 "told_fractions" (sp_told_fractions T)) (m_Drawn_stationary : SB.Met P w K mg base 3 T.Drawn "stationary" (sp_Drawn_stationary T))  {f : Addr} {fd : FuncData} (F : Fun K "stationary_distribution" "stationary_distribution" s_stationary_distribution f fd) : FnOk P w K mg base (L2N.CX P w) 6 f fd ["slots", "args"] (sp_stationary_distribution T) := by
  refine SB.okN F sc_stationary_distribution len_stationary_distribution (fun cdv A outer s H vs Q E hr h => ⟨_, (pss_cons (ps_set (i := 2) sc_stationary_distribution.nd rfl (by first | exact Or.inl rfl | exact Or.inr rfl) (SB.pe_cX c_drawn_in hr (by decide) rfl (L2N.takes_of rfl rfl rfl rfl) (by exact (pa_cons (pv 1) pa_nil)))) (pss_one (ps_ret (pe_ifExp (pt_val (SB.cal c_has_single_class hr (by decide) rfl (pa_cons (SB.kFld (K := K) rfl (pv 2) rfl) pa_nil))) (SB.cal c_told_fractions hr (by decide) rfl (pa_cons (SB.met0 m_Drawn_stationary hr (by decide) (pv 2)) pa_nil)) pe_non)))), ?_⟩)
  obtain ⟨s0, aa, l, w, c, I, X, rfl, hW, ⟨avs, hq, hps⟩, hl, hc, hin, q, e⟩ := h
  obtain ⟨x, y, rfl⟩ : ∃ x y, l = [x, y] := by
    match l, hl with
    | [x, y], _ => exact ⟨x, y, rfl⟩
  have ec : c = .fn (.stationary x y) := by
    have h : Rust.callOf 0 [x, y] = some (.fn (.stationary x y)) := rfl
    rw [h] at hc
    exact (Option.some.inj hc).symm
  subst ec
  obtain ⟨v0, v1, vl, rfl, p0, p1, _⟩ := args_two hps
  have eqn : (runCall w (.fn (.stationary x y))).2 = match readCB x y with
      | .ok (t, g) => .ret (R7244e.Spec.orNull R7244e.Spec.ratsP (R7244e.Spec.stationaryOf t g))
      | .error er => .fail er := by
    show R7244e.Spec.answer id (R7244e.Spec.stationaryFn x y) = _
    unfold R7244e.Spec.stationaryFn readCB R7244e.Spec.withChain R7244e.Spec.andThen
    cases readChain x with
    | error er => rfl
    | ok t => cases readBias y <;> rfl
  refine ⟨_, rfl, aa, x, y, [], I, rfl, ⟨_, hq, hps⟩, fun t g et H1 r s1 hd => ?_, fun er et H' d s' h' => e _ (by rw [eqn, et]) H' I d (hW.same s') h'⟩
  obtain ⟨ec2, eb, vg⟩ := cb_inv et
  obtain ⟨_, vc⟩ := chain_at p0 ec2
  rw [et] at eqn
  simp only at eqn
  have q1 := q _ eqn
  rw [stat_eq vc vg] at q1
  obtain ⟨da, ddx, dc, dws, rfl, hda, hch, hdi, hdw⟩ := id hd
  refine ⟨_, rfl, da, T.Drawn, _, _, _, rfl, hda, T.clDrawn, T.nDrawn_chain, lkDrawn_chain, dc, t, rfl, vc, hch.mono (fun _ _ => trivial), fun H2 s2 => ⟨_, rfl, ?_⟩⟩
  have s12 := s1.trans s2
  have hda2 := s2 _ _ hda
  cases h1 : hasOneClass t with
  | true =>
    rw [if_pos h1] at q1
    have rk := SS.rate_ok vc vg h1
    refine itT rfl ⟨_, rfl, da, _, _, rfl, hda2, noDrawn_stationary, .ref da, t, g, rfl, vc, vg, rk, (hd.same s2).any, fun H3 rv s3 fr => ⟨rv, ratesOf t g, _, rfl, fr, by rw [rk.len]; exact vc.le, fun H4 r4 s4 p4 => ?_⟩⟩
    exact q1 H4 I _ r4 (hW.same (s12.trans (s3.trans s4))) p4 (fun b hb => hb.2)
  | false =>
    rw [if_neg (by rw [h1]; decide)] at q1
    exact itF rfl (q1 H2 I (fun _ => False) .non (hW.same s12) .null (fun _ h => h.elim))

end
end SP

/-! ## E2 -/
set_option maxHeartbeats 4000000
namespace SP
open PySem PySem.Spec PyProof.Rows L2 SB
open SS (VC VG R Sz RateOk treeW ratesOf leadsTo)
open R7244e.Spec (reachable recurrentStates hasOneClass canMeet distribution wordProb endState coverage separation unstopped stopProbs survival entry target)
section
variable {P : Program} {w : World} {base : Heap}
variable {K : PySem.W.Frag} {mg : Str → Option Value}

open R7244e.Spec (readInt readState readChain readAll readNumber readBias readStart runCall)
theorem same_in {H H1 H2 : Hp} {cd : Addr} (s1 : Same H H1) (c : Chg (· = cd) H1 H2) (n : H cd = none) : Same H H2 := fun b o e => c b o (s1 b o e) (ne_of_none e n)
theorem num_inv {name : String} {a b n : Nat} {p : Plain} (h : readNumber name a b p = .ok n) : readInt a b p = some n := by
  unfold readNumber at h
  cases e : readInt a b p with
  | none => rw [e] at h; cases h
  | some m => rw [e] at h; cases h; rfl
theorem ru_vr {T : TX K mg} {I : Addr → Prop} {H : Hp} {v0 v2 : V} {x y z : Plain} {R : Ru} (p0 : PlAt T I H false v0 x) (p2 : PlAt T I H false v2 z) (h : readRu x y z = .ok R) : VR R := by
  rw [ru_eq] at h
  cases e1 : readCS x y z with
  | error e => rw [e1] at h; cases h
  | ok tgp =>
    obtain ⟨t, g, p⟩ := tgp
    rw [e1] at h
    simp only at h
    obtain ⟨ecb, ez⟩ := cs_inv e1
    obtain ⟨ec, eb, vg⟩ := cb_inv ecb
    obtain ⟨_, vc⟩ := chain_at p0 ec
    obtain ⟨_, _, hpl⟩ := int_at p2 ez
    have := vc.pos
    rw [stat_eq vc vg] at h
    cases h1 : hasOneClass t with
    | true =>
      rw [if_pos h1] at h
      cases h
      exact ⟨vc, vg, (by show p < t.length; omega), SS.rate_ok vc vg h1⟩
    | false =>
      rw [if_neg (by rw [h1]; decide)] at h
      cases h
theorem args_four {T : TX K mg} {I : Addr → Prop} {H : Hp} {avs : List V} {x y z u : Plain} {l : List Plain} (h : PlsAt T I H false avs (x :: y :: z :: u :: l)) : ∃ v0 v1 v2 v3 vl, avs = v0 :: v1 :: v2 :: v3 :: vl ∧ PlAt T I H false v0 x ∧ PlAt T I H false v1 y ∧ PlAt T I H false v2 z ∧ PlAt T I H false v3 u := by
  obtain ⟨v0, v1, v2, vl, e, h1, h2, h3, h⟩ := args_three h
  cases h with
  | cons h4 h => exact ⟨v0, v1, v2, _, _, e, h1, h2, h3, h4⟩
/-- a call with a rule and a number of steps -/
theorem ws_eq {α : Type} {x y z u : Plain} (f : R7244e.Spec.Chain → R7244e.Spec.Bias → List Rat → Nat → Nat → Plain) : R7244e.Spec.answer id (R7244e.Spec.withStationary x y z fun t g l p => R7244e.Spec.andThen (readNumber "steps" 0 8 u) fun n => .ok (f t g l p n)) = (match readRu x y z with
    | .ok R => (match readNumber "steps" 0 8 u with
      | .ok n => .ret (f R.t R.g R.y R.p n)
      | .error e => .fail e)
    | .error e => .fail e) := by
  unfold readRu R7244e.Spec.withStationary R7244e.Spec.withChain R7244e.Spec.andThen
  cases readChain x with
  | error e => rfl
  | ok t =>
    cases readBias y with
    | error e => rfl
    | ok g =>
      simp only [readStart, R7244e.Spec.failRange]
      cases readInt 0 (t.length - 1) z with
      | none => rfl
      | some p =>
        simp only
        cases R7244e.Spec.stationaryOf t g with
        | none => rfl
        | some l => simp only; cases readNumber "steps" 0 8 u <;> rfl
abbrev s_separation : Stmt := topS 62
theorem sc_separation : FnScope ["slots", "args"] ["slots", "args"] (defScope s_separation) := SB.sc_by (by decide +kernel)
theorem ok_separation (T : TX K mg) (c_rule_with_steps : SB.CalX P w K mg base 8 "rule_with_steps" (sp_rule_with_steps T)) (m_Rule_separation : SB.Met P w K mg base 5 T.Rule "separation" (sp_Rule_separation T))  {f : Addr} {fd : FuncData} (F : Fun K "separation" "separation" s_separation f fd) : FnOk P w K mg base (L2N.CX P w) 9 f fd ["slots", "args"] (sp_separation T) := by
  refine SB.okN F sc_separation len_separation (fun cdv A outer s H vs Q E hr h => ⟨_, (pss_one (ps_ret (pe_callTy (SB.kListOf (K := K) rfl) (by rfl) T.b_list (by decide +kernel) (pa_cons (SB.met m_Rule_separation hr (by decide) (SB.pe_cX c_rule_with_steps hr (by decide) rfl (L2N.takes_of rfl rfl rfl rfl) (by exact (pa_cons (pv 1) pa_nil))) (pa_cons (pe_ix (SB.kIxL (K := K) rfl) (pv 1) pe_int (fun _ _ => rfl)) pa_nil)) pa_nil)))), ?_⟩)
  obtain ⟨s0, aa, l, w, c, I, X, rfl, hW, ⟨avs, hq, hps⟩, hl, hc, hin, q, e⟩ := h
  obtain ⟨x, y, z, u, rfl⟩ : ∃ x y z u, l = [x, y, z, u] := by
    match l, hl with
    | [x, y, z, u], _ => exact ⟨x, y, z, u, rfl⟩
  have ec : c = .fn (.separation x y z u) := by
    have h : Rust.callOf 3 [x, y, z, u] = some (.fn (.separation x y z u)) := rfl
    rw [h] at hc
    exact (Option.some.inj hc).symm
  subst ec
  obtain ⟨v0, v1, v2, v3, vl, rfl, p0, p1, p2, p3⟩ := args_four hps
  have eqn : (runCall w (.fn (.separation x y z u))).2 = _ := ws_eq (α := Unit) (x := x) (y := y) (z := z) (u := u) fun t g l p n => R7244e.Spec.ratP (R7244e.Spec.separation t g l p n)
  refine ⟨_, rfl, aa, x, y, z, u, [], I, rfl, ⟨_, hq, hps⟩, fun R n eR en H1 r cd s1 hcd hR => ?_, fun er ee H' d s' h' => ?_⟩
  · rw [eR, en] at eqn
    simp only at eqn
    have vr := ru_vr p0 p2 eR
    obtain ⟨rfl, _, n8⟩ := int_at p3 (num_inv en)
    obtain ⟨ra, _, _, _, _, rfl, _⟩ := id hR
    obtain ⟨rdx, d, rs, kvs, hra, _⟩ := hR.open
    refine ⟨ra, _, _, rfl, hra, noRule_separation, _, rfl, aa, _, 3, _, rfl, rfl, seq_same s1 hq, at3, .ref ra, cd, R, n, New I H H1, rfl, vr, n8, hR, fun H2 sv c2 r2 f2 => ?_⟩
    obtain ⟨sa, rfl, hsa⟩ := f2
    refine ⟨sa, _, rfl, .inr hsa, fun D hD => ?_⟩
    have s2 := same_in s1 c2 hcd
    have s3 := same_upd2 (o := .lst [.int (R7244e.Spec.separation R.t R.g R.y R.p n).num, .int ((R7244e.Spec.separation R.t R.g R.y R.p n).den : Nat)]) s2 (s2.free hD)
    exact q _ eqn _ I (· = D) _ (hW.same s3) (PlAt.rat rfl upd_same) (fun b hb => by rw [hb, upd_same]; simp)
  · refine e _ ?_ H' I d (hW.same s') h'
    rw [eqn]
    rcases ee with ee | ⟨R, eR, ee⟩
    · rw [ee]
    · rw [eR, ee]

end
end SP

/-! ## E3 -/
set_option maxHeartbeats 4000000
namespace SP
open PySem PySem.Spec PyProof.Rows L2 SB
open SS (VC VG R Sz RateOk treeW ratesOf leadsTo)
open R7244e.Spec (reachable recurrentStates hasOneClass canMeet distribution wordProb endState coverage separation unstopped stopProbs survival entry target)
section
variable {P : Program} {w : World} {base : Heap}
variable {K : PySem.W.Frag} {mg : Str → Option Value}

open R7244e.Spec (readInt readState readChain readAll readNumber readBias readStart runCall)
abbrev s_stop_probabilities : Stmt := topS 63
theorem sc_stop_probabilities : FnScope ["slots", "args"] ["slots", "args"] (defScope s_stop_probabilities) := SB.sc_by (by decide +kernel)
theorem ok_stop_probabilities (T : TX K mg) (c_rule_with_steps : SB.CalX P w K mg base 8 "rule_with_steps" (sp_rule_with_steps T)) (c_told_fractions : SB.Cal P w K mg base 1 "told_fractions" (sp_told_fractions T)) (m_Rule_stops : SB.Met P w K mg base 6 T.Rule "stops" (sp_Rule_stops T))  {f : Addr} {fd : FuncData} (F : Fun K "stop_probabilities" "stop_probabilities" s_stop_probabilities f fd) : FnOk P w K mg base (L2N.CX P w) 9 f fd ["slots", "args"] (sp_stop_probabilities T) := by
  refine SB.okN F sc_stop_probabilities len_stop_probabilities (fun cdv A outer s H vs Q E hr h => ⟨_, (pss_one (ps_ret (SB.cal c_told_fractions hr (by decide) rfl (pa_cons (SB.met m_Rule_stops hr (by decide) (SB.pe_cX c_rule_with_steps hr (by decide) rfl (L2N.takes_of rfl rfl rfl rfl) (by exact (pa_cons (pv 1) pa_nil))) (pa_cons (pe_ix (SB.kIxL (K := K) rfl) (pv 1) pe_int (fun _ _ => rfl)) pa_nil)) pa_nil)))), ?_⟩)
  obtain ⟨s0, aa, l, w, c, I, X, rfl, hW, ⟨avs, hq, hps⟩, hl, hc, hin, q, e⟩ := h
  obtain ⟨x, y, z, u, rfl⟩ : ∃ x y z u, l = [x, y, z, u] := by
    match l, hl with
    | [x, y, z, u], _ => exact ⟨x, y, z, u, rfl⟩
  have ec : c = .fn (.stopProbs x y z u) := by
    have h : Rust.callOf 4 [x, y, z, u] = some (.fn (.stopProbs x y z u)) := rfl
    rw [h] at hc
    exact (Option.some.inj hc).symm
  subst ec
  obtain ⟨v0, v1, v2, v3, vl, rfl, p0, p1, p2, p3⟩ := args_four hps
  have eqn : (runCall w (.fn (.stopProbs x y z u))).2 = _ := ws_eq (α := Unit) (x := x) (y := y) (z := z) (u := u) fun t g l p n => R7244e.Spec.ratsP (R7244e.Spec.stopProbs t g l p n)
  refine ⟨_, rfl, aa, x, y, z, u, [], I, rfl, ⟨_, hq, hps⟩, fun R n eR en H1 r cd s1 hcd hR => ?_, fun er ee H' d s' h' => ?_⟩
  · rw [eR, en] at eqn
    simp only at eqn
    have vr := ru_vr p0 p2 eR
    obtain ⟨rfl, _, n8⟩ := int_at p3 (num_inv en)
    obtain ⟨ra, _, _, _, _, rfl, _⟩ := id hR
    obtain ⟨rdx, d, rs, kvs, hra, _⟩ := hR.open
    refine ⟨ra, _, _, rfl, hra, noRule_stops, _, rfl, aa, _, 3, _, rfl, rfl, seq_same s1 hq, at3, .ref ra, cd, R, n, New I H H1, rfl, vr, n8, hR, fun H2 sv c2 r2 f2 => ⟨sv, _, _, rfl, f2, by rw [SS.len_stops]; exact vr.v.le, fun H3 r3 s3 p3 => ?_⟩⟩
    have s2 := same_in s1 c2 hcd
    exact q _ eqn _ I _ _ (hW.same (s2.trans s3)) p3 (fun b hb => hb.2)
  · refine e _ ?_ H' I d (hW.same s') h'
    rw [eqn]
    rcases ee with ee | ⟨R, eR, ee⟩
    · rw [ee]
    · rw [eR, ee]
abbrev s_unstopped_probabilities : Stmt := topS 64
theorem sc_unstopped_probabilities : FnScope ["slots", "args"] ["slots", "args"] (defScope s_unstopped_probabilities) := SB.sc_by (by decide +kernel)
theorem ok_unstopped_probabilities (T : TX K mg) (c_rule_with_steps : SB.CalX P w K mg base 8 "rule_with_steps" (sp_rule_with_steps T)) (c_told_fractions : SB.Cal P w K mg base 1 "told_fractions" (sp_told_fractions T)) (m_Rule_unstopped : SB.Met P w K mg base 5 T.Rule "unstopped" (sp_Rule_unstopped T))  {f : Addr} {fd : FuncData} (F : Fun K "unstopped_probabilities" "unstopped_probabilities" s_unstopped_probabilities f fd) : FnOk P w K mg base (L2N.CX P w) 9 f fd ["slots", "args"] (sp_unstopped_probabilities T) := by
  refine SB.okN F sc_unstopped_probabilities len_unstopped_probabilities (fun cdv A outer s H vs Q E hr h => ⟨_, (pss_one (ps_ret (SB.cal c_told_fractions hr (by decide) rfl (pa_cons (SB.met m_Rule_unstopped hr (by decide) (SB.pe_cX c_rule_with_steps hr (by decide) rfl (L2N.takes_of rfl rfl rfl rfl) (by exact (pa_cons (pv 1) pa_nil))) (pa_cons (pe_ix (SB.kIxL (K := K) rfl) (pv 1) pe_int (fun _ _ => rfl)) pa_nil)) pa_nil)))), ?_⟩)
  obtain ⟨s0, aa, l, w, c, I, X, rfl, hW, ⟨avs, hq, hps⟩, hl, hc, hin, q, e⟩ := h
  obtain ⟨x, y, z, u, rfl⟩ : ∃ x y z u, l = [x, y, z, u] := by
    match l, hl with
    | [x, y, z, u], _ => exact ⟨x, y, z, u, rfl⟩
  have ec : c = .fn (.unstopped x y z u) := by
    have h : Rust.callOf 5 [x, y, z, u] = some (.fn (.unstopped x y z u)) := rfl
    rw [h] at hc
    exact (Option.some.inj hc).symm
  subst ec
  obtain ⟨v0, v1, v2, v3, vl, rfl, p0, p1, p2, p3⟩ := args_four hps
  have eqn : (runCall w (.fn (.unstopped x y z u))).2 = _ := ws_eq (α := Unit) (x := x) (y := y) (z := z) (u := u) fun t g l p n => R7244e.Spec.ratsP (R7244e.Spec.unstopped t g l p n)
  refine ⟨_, rfl, aa, x, y, z, u, [], I, rfl, ⟨_, hq, hps⟩, fun R n eR en H1 r cd s1 hcd hR => ?_, fun er ee H' d s' h' => ?_⟩
  · rw [eR, en] at eqn
    simp only at eqn
    have vr := ru_vr p0 p2 eR
    obtain ⟨rfl, _, n8⟩ := int_at p3 (num_inv en)
    obtain ⟨ra, _, _, _, _, rfl, _⟩ := id hR
    obtain ⟨rdx, d, rs, kvs, hra, _⟩ := hR.open
    refine ⟨ra, _, _, rfl, hra, noRule_unstopped, _, rfl, aa, _, 3, _, rfl, rfl, seq_same s1 hq, at3, .ref ra, cd, R, n, New I H H1, rfl, vr, n8, hR, fun H2 sv c2 r2 f2 => ⟨sv, _, _, rfl, f2, by rw [SS.len_uns]; exact vr.v.le, fun H3 r3 s3 p3 => ?_⟩⟩
    have s2 := same_in s1 c2 hcd
    exact q _ eqn _ I _ _ (hW.same (s2.trans s3)) p3 (fun b hb => hb.2)
  · refine e _ ?_ H' I d (hW.same s') h'
    rw [eqn]
    rcases ee with ee | ⟨R, eR, ee⟩
    · rw [ee]
    · rw [eR, ee]
theorem ds_eq {x y z u : Plain} : R7244e.Spec.answer id (R7244e.Spec.distributionFn x y z u) = (match readCS x y z with
    | .ok (t, g, p) => (match readNumber "steps" 0 8 u with
      | .ok n => .ret (R7244e.Spec.ratsP (distribution t g p n))
      | .error e => .fail e)
    | .error e => .fail e) := by
  unfold R7244e.Spec.distributionFn readCS R7244e.Spec.withChain R7244e.Spec.andThen
  cases readChain x with
  | error e => rfl
  | ok t =>
    cases readBias y with
    | error e => rfl
    | ok g =>
      simp only [readStart, R7244e.Spec.failRange]
      cases readInt 0 (t.length - 1) z with
      | none => rfl
      | some p =>
        simp only
        cases readNumber "steps" 0 8 u <;> rfl
abbrev s_distribution : Stmt := topS 59
theorem sc_distribution : FnScope ["slots", "args", "own"] ["slots", "args"] (defScope s_distribution) := SB.sc_by (by decide +kernel)
theorem ok_distribution (T : TX K mg) (c_check_steps : SB.CalX P w K mg base 4 "check_steps" (sp_check_steps T)) (c_started_in : SB.CalX P w K mg base 6 "started_in" (sp_started_in T)) (c_told_fractions : SB.Cal P w K mg base 1 "told_fractions" (sp_told_fractions T)) (m_Drawn_distribution : SB.Met P w K mg base 3 T.Drawn "distribution" (sp_Drawn_distribution T))  {f : Addr} {fd : FuncData} (F : Fun K "distribution" "distribution" s_distribution f fd) : FnOk P w K mg base (L2N.CX P w) 7 f fd ["slots", "args"] (sp_distribution T) := by
  refine SB.okN F sc_distribution len_distribution (fun cdv A outer s H vs Q E hr h => ⟨_, (pss_cons (ps_set (i := 2) sc_distribution.nd rfl (by first | exact Or.inl rfl | exact Or.inr rfl) (SB.pe_cX c_started_in hr (by decide) rfl (L2N.takes_of rfl rfl rfl rfl) (by exact (pa_cons (pv 1) pa_nil)))) (pss_cons (ps_expr (SB.pe_cX c_check_steps hr (by decide) rfl (L2N.takes_of rfl rfl rfl rfl) (by exact (pa_cons (pe_ix (SB.kIxL (K := K) rfl) (pv 1) pe_int (fun _ _ => rfl)) (pa_cons pe_str (pa_cons (pe_glob (v := .int 8) rfl T.gMOST_STEPS ⟨_, rfl⟩) pa_nil)))))) (pss_one (ps_ret (SB.cal c_told_fractions hr (by decide) rfl (pa_cons (SB.met m_Drawn_distribution hr (by decide) (pv 2) (pa_cons (pe_ix (SB.kIxL (K := K) rfl) (pv 1) pe_int (fun _ _ => rfl)) (pa_cons (pe_ix (SB.kIxL (K := K) rfl) (pv 1) pe_int (fun _ _ => rfl)) pa_nil))) pa_nil)))))), ?_⟩)
  obtain ⟨s0, aa, l, w, c, I, X, rfl, hW, ⟨avs, hq, hps⟩, hl, hc, hin, q, e⟩ := h
  obtain ⟨x, y, z, u, rfl⟩ : ∃ x y z u, l = [x, y, z, u] := by
    match l, hl with
    | [x, y, z, u], _ => exact ⟨x, y, z, u, rfl⟩
  have ec : c = .fn (.distribution x y z u) := by
    have h : Rust.callOf 1 [x, y, z, u] = some (.fn (.distribution x y z u)) := rfl
    rw [h] at hc
    exact (Option.some.inj hc).symm
  subst ec
  obtain ⟨v0, v1, v2, v3, vl, rfl, p0, p1, p2, p3⟩ := args_four hps
  have eqn : (runCall w (.fn (.distribution x y z u))).2 = _ := ds_eq (x := x) (y := y) (z := z) (u := u)
  refine ⟨_, rfl, aa, x, y, z, [u], I, rfl, ⟨_, hq, hps⟩, fun t g p et H1 r s1 hd => ?_, fun er ee H' d s' h' => e _ (by rw [eqn, ee]) H' I d (hW.same s') h'⟩
  rw [et] at eqn
  simp only at eqn
  obtain ⟨ecb, ez⟩ := cs_inv et
  obtain ⟨ec2, eb, vg⟩ := cb_inv ecb
  obtain ⟨_, vc⟩ := chain_at p0 ec2
  obtain ⟨rfl, _, hpl⟩ := int_at p2 ez
  have vp := vc.pos
  refine ⟨_, rfl, aa, _, 3, _, rfl, rfl, seq_same s1 hq, at3, v3, u, "steps", 8, I, rfl, p3.same s1, .inl ⟨rfl, rfl⟩, fun n en => ?_, fun er ee H' d s' h' => e _ (by rw [eqn, ee]) H' I d (hW.same (s1.trans s')) h'⟩
  rw [en] at eqn
  simp only at eqn
  obtain ⟨rfl, _, n8⟩ := int_at p3 (num_inv en)
  obtain ⟨da, ddx, dc, dws, rfl, hda, _⟩ := id hd
  have hq1 := seq_same s1 hq
  refine ⟨_, rfl, da, _, _, rfl, hda, noDrawn_distribution, _, rfl, aa, _, 2, _, rfl, rfl, hq1, at2, _, rfl, aa, _, 3, _, rfl, rfl, hq1, at3, .ref da, t, g, p, n, rfl, vc, vg, (by omega), (by omega), hd.any, fun H2 rv s2 fr => ⟨rv, _, _, rfl, fr, by rw [SS.len_dist]; exact vc.le, fun H3 r3 s3 p3 => ?_⟩⟩
  exact q _ eqn _ I _ _ (hW.same (s1.trans (s2.trans s3))) p3 (fun b hb => hb.2)

end
end SP

/-! ## E4 -/
set_option maxHeartbeats 4000000
namespace SP
open PySem PySem.Spec PyProof.Rows L2 SB
open SS (VC VG R Sz RateOk treeW ratesOf leadsTo)
open R7244e.Spec (reachable recurrentStates hasOneClass canMeet distribution wordProb endState coverage separation unstopped stopProbs survival entry target)
section
variable {P : Program} {w : World} {base : Heap}
variable {K : PySem.W.Frag} {mg : Str → Option Value}

open R7244e.Spec (readInt readState readChain readAll readNumber readBias readStart runCall readThreshold)
/-- is_below, the first fraction handed in as a list -/
def sp_is_belowL (T : TX K mg) : Sp := fun vs H Q _ => ∃ (a : Addr) (w : V) (x y : Rat), vs = [.ref a, w] ∧ SqL K H a [.int x.num, .int (x.den : Nat)] ∧ FrAt K H w y ∧ Sz 1000 x ∧ Sz 1000 y ∧ Q (.bl (decide (x < y))) H
theorem len_is_belowL {T : TX K mg} : ∀ vs H Q E, sp_is_belowL T vs H Q E → vs.length = (["one", "other"] : List Str).length := by
  rintro _ H Q E ⟨_, _, _, _, rfl, _⟩
  rfl
theorem okL_is_below (T : TX K mg)   {f : Addr} {fd : FuncData} (F : Fun K "is_below" "is_below" s_is_below f fd) : FnOk P w K mg base CX0 1 f fd ["one", "other"] (sp_is_belowL T) := by
  refine F.ok sc_is_below len_is_belowL (fun cdv A outer s H vs Q E hr h => ⟨_, (pss_one (ps_ret (pe_cmpR op_lt (pe_op op_mulW (pe_ix (SB.kIxL (K := K) rfl) (pv 0) pe_int (fun _ _ => rfl)) (pe_ix (SB.kIxT (K := K) rfl) (pv 1) pe_int (fun _ _ => rfl))) (pe_op op_mulW (pe_ix (SB.kIxT (K := K) rfl) (pv 1) pe_int (fun _ _ => rfl)) (pe_ix (SB.kIxL (K := K) rfl) (pv 0) pe_int (fun _ _ => rfl))) (nomark _)))), ?_⟩)
  obtain ⟨a, w', x, y, rfl, ha, ⟨b, rfl, hb⟩, sx, sy, q⟩ := h
  have c1 : CMulW x.num (y.den : Nat) := wide_mul sx.1 (by rw [Int.natAbs_natCast]; exact sy.2) (by decide) (by decide) (by decide)
  have c2 : CMulW y.num (x.den : Nat) := wide_mul sy.1 (by rw [Int.natAbs_natCast]; exact sx.2) (by decide) (by decide) (by decide)
  refine ⟨_, rfl, a, _, 0, _, rfl, rfl, ha, rfl, _, rfl, b, _, 1, _, rfl, rfl, hb, rfl, _, _, rfl, rfl, c1, _, rfl, b, _, 0, _, rfl, rfl, hb, rfl, _, rfl, a, _, 1, _, rfl, rfl, ha, rfl, _, _, rfl, rfl, c2, _, _, rfl, rfl, ?_⟩
  have e : decide (x.num * ((y.den : Nat) : Int) < y.num * ((x.den : Nat) : Int)) = decide (x < y) := by
    rw [decide_eq_decide]
    exact (Rat.lt_iff x y).symm
  show Q (V.bl (decide (x.num * ((y.den : Nat) : Int) < y.num * ((x.den : Nat) : Int)))) _
  rw [e]
  exact q
theorem thr_inv {u : Plain} {r : Bias} (h : readThreshold u = .ok r) : ∃ i n : Int, u = .arr [.num (some i), .num (some n)] ∧ 0 ≤ i ∧ i ≤ n ∧ 1 ≤ n ∧ n ≤ 12 ∧ Nat.gcd i.toNat n.toNat = 1 ∧ r = (i.toNat, n.toNat) := by
  match u, h with
  | .arr [a, b], h =>
    have h : (match readInt 0 12 a, readInt 1 12 b with
      | some i, some n => if i ≤ n ∧ Nat.gcd i n = 1 then (.ok (i, n) : R7244e.Spec.Res Bias) else R7244e.Spec.failType "threshold must be a fraction from 0 to 1 with a denominator of at most 12"
      | _, _ => R7244e.Spec.failType "threshold must be a fraction from 0 to 1 with a denominator of at most 12") = .ok r := h
    cases e1 : readInt 0 12 a with
    | none => rw [e1] at h; cases h
    | some i =>
      cases e2 : readInt 1 12 b with
      | none => rw [e1, e2] at h; cases h
      | some n =>
        rw [e1, e2] at h
        simp only at h
        by_cases c : i ≤ n ∧ Nat.gcd i n = 1
        · rw [if_pos c] at h
          cases h
          have num : ∀ {p : Plain} {a b k : Nat}, readInt a b p = some k → ∃ z : Int, p = .num (some z) ∧ (a : Int) ≤ z ∧ z ≤ (b : Int) ∧ k = z.toNat := by
            intro p a b k h
            match p, h with
            | .num (some z), h =>
              have e0 : readInt a b (.num (some z)) = if ((a : Nat) : Int) ≤ z ∧ z ≤ ((b : Nat) : Int) then some z.toNat else none := rfl
              rw [e0] at h
              by_cases c : ((a : Nat) : Int) ≤ z ∧ z ≤ ((b : Nat) : Int)
              · rw [if_pos c] at h
                exact ⟨z, rfl, c.1, c.2, (Option.some.inj h).symm⟩
              · rw [if_neg c] at h
                cases h
            | .num none, h => cases h
            | .undef, h => cases h
            | .null, h => cases h
            | .bool _, h => cases h
            | .str _, h => cases h
            | .arr _, h => cases h
            | .obj _, h => cases h
            | .big, h => cases h
          obtain ⟨z1, rfl, a1, a2, rfl⟩ := num e1
          obtain ⟨z2, rfl, b1, b2, rfl⟩ := num e2
          exact ⟨z1, z2, rfl, by omega, by omega, by omega, by omega, c.2, rfl⟩
        · rw [if_neg c] at h
          cases h
  | .arr [], h => cases h
  | .arr [_], h => cases h
  | .arr (_ :: _ :: _ :: _), h => cases h
  | .undef, h => cases h
  | .null, h => cases h
  | .bool _, h => cases h
  | .num _, h => cases h
  | .str _, h => cases h
  | .obj _, h => cases h
  | .big, h => cases h

end
end SP

/-! ## SP10 -/
set_option maxHeartbeats 4000000
namespace SP
open PySem PySem.Spec PyProof.Rows L2 SB
section
variable {K : PySem.W.Frag} {mg : Str → Option Value} {T : TX K mg} {I J M : Addr → Prop} {H H' : Hp}
theorem WkAt.off {v : V} {a cd : Addr} {R : Ru} {h : Walker} (f : OffR T M I H) (na : ¬ M a) (nc : ¬ M cd) (s : Chg M H H') (q : WkAt T I H v a cd R h) : WkAt T I H' v a cd R h := by
  obtain ⟨w, st, fi, ⟨dx, r, wv, e, ha, hR, hw, l8, lt⟩, h2⟩ := q
  exact ⟨w, st, fi, ⟨dx, r, wv, e, s _ _ ha na, hR.off f nc s, hw.off f.toOff s, l8, lt⟩, h2⟩
theorem EnAt.off {v : V} {a cd rr : Addr} {R : Ru} {h : Enum} (f : OffR T M I H) (na : ¬ M a) (nc : ¬ M cd) (nr : ¬ M rr) (s : Chg M H H') (q : EnAt T I H v a cd rr R h) : EnAt T I H' v a cd rr R h := by
  obtain ⟨fi, ⟨dx, r, e, ha, hR, ⟨ws, w1, w2⟩, h3⟩, h2⟩ := q
  exact ⟨fi, ⟨dx, r, e, s _ _ ha na, hR.off f nc s, ⟨ws, s _ _ w1 nr, Paired.imp (fun _ _ z => WdAt.off f.toOff s z) w2⟩, h3⟩, h2⟩
theorem WkAt.mono {v : V} {a cd : Addr} {R : Ru} {h : Walker} (j : ∀ b, I b → J b) (q : WkAt T I H v a cd R h) : WkAt T J H v a cd R h := by
  obtain ⟨w, st, fi, ⟨dx, r, wv, e, ha, hR, h3⟩, h2⟩ := q
  exact ⟨w, st, fi, ⟨dx, r, wv, e, ha, hR.mono j, h3⟩, h2⟩
theorem EnAt.mono {v : V} {a cd rr : Addr} {R : Ru} {h : Enum} (j : ∀ b, I b → J b) (n : ¬ J rr) (q : EnAt T I H v a cd rr R h) : EnAt T J H v a cd rr R h := by
  obtain ⟨fi, ⟨dx, r, e, ha, hR, hrr, nI, h3⟩, h2⟩ := q
  exact ⟨fi, ⟨dx, r, e, ha, hR.mono j, hrr, n, h3⟩, h2⟩
theorem SlW.off {v : V} {o : Option Walker} {N : Addr → Prop} (f : OffR T M I H) (n : ∀ b, N b → ¬ M b) (s : Chg M H H') (q : SlW T I H v o N) : SlW T I H' v o N := by
  cases o with
  | none => exact q
  | some h =>
    obtain ⟨a, cd, R, vr, q, m⟩ := q
    exact ⟨a, cd, R, vr, q.off f (n a ((m a).mpr (.inl rfl))) (n cd ((m cd).mpr (.inr rfl))) s, m⟩
theorem SlE.off {v : V} {o : Option Enum} {N : Addr → Prop} (f : OffR T M I H) (n : ∀ b, N b → ¬ M b) (s : Chg M H H') (q : SlE T I H v o N) : SlE T I H' v o N := by
  cases o with
  | none => exact q
  | some h =>
    obtain ⟨a, cd, rr, R, vr, q, m⟩ := q
    exact ⟨a, cd, rr, R, vr, q.off f (n a ((m a).mpr (.inl rfl))) (n cd ((m cd).mpr (.inr (.inl rfl)))) (n rr ((m rr).mpr (.inr (.inr rfl)))) s, m⟩
/-- a walk's own places touch nothing else -/
theorem WkAt.offR {v : V} {a cd : Addr} {R : Ru} {h : Walker} (q : WkAt T I H v a cd R h) : OffR T (Two a cd) I H ∧ OffP (Two a cd) I H := by
  obtain ⟨w, st, fi, ⟨dx, r, wv, e, ha, hR, _⟩, _⟩ := q
  obtain ⟨kvs, hc⟩ := hR.cd
  have f : Off (Two a cd) I H := by
    refine ⟨?_, ?_, ?_⟩
    · rintro b xs (rfl | rfl) z
      · rw [ha] at z; cases z
      · rw [hc] at z; cases z
    · rintro b o u (rfl | rfl) z
      · rw [ha] at z; cases z
      · rw [hc] at z; cases z
    · rintro b xs (rfl | rfl) _ z
      · rw [ha] at z; cases z
      · rw [hc] at z; cases z
  refine ⟨{ f with ins := ?_ }, { f with one := ?_ }⟩
  · rintro b C dx2 fs (rfl | rfl) z
    · rw [ha] at z
      injection z with z
      injection z with z1 z2 z3
      subst z1
      exact ⟨T.neWR, T.neWD⟩
    · rw [hc] at z; cases z
  · rintro b C dx2 g x (rfl | rfl) z
    · rw [ha] at z
      have := congrArg (fun o => match o with | some (HO.ins _ _ fs) => fs.length | _ => 0) z
      simp at this
    · rw [hc] at z; cases z
theorem EnAt.offR {v : V} {a cd rr : Addr} {R : Ru} {h : Enum} (q : EnAt T I H v a cd rr R h) : OffR T (Two a rr) I H ∧ OffP (Two a rr) I H := by
  obtain ⟨fi, ⟨dx, r, e, ha, hR, ⟨ws, w1, _⟩, nI, _⟩, _⟩ := q
  have f : Off (Two a rr) I H := by
    refine ⟨?_, ?_, ?_⟩
    · rintro b xs (rfl | rfl) z
      · rw [ha] at z; cases z
      · rw [w1] at z; cases z
    · rintro b o u (rfl | rfl) z
      · rw [ha] at z; cases z
      · rw [w1] at z; cases z
    · rintro b xs (rfl | rfl) i z
      · rw [ha] at z; cases z
      · exact nI i
  refine ⟨{ f with ins := ?_ }, { f with one := ?_ }⟩
  · rintro b C dx2 fs (rfl | rfl) z
    · rw [ha] at z
      injection z with z
      injection z with z1 z2 z3
      subst z1
      exact ⟨T.neER, T.neED⟩
    · rw [w1] at z; cases z
  · rintro b C dx2 g x (rfl | rfl) z
    · rw [ha] at z
      have := congrArg (fun o => match o with | some (HO.ins _ _ fs) => fs.length | _ => 0) z
      simp at this
    · rw [w1] at z; cases z
end
end SP

/-! ## SP11 -/
set_option maxHeartbeats 4000000
namespace SP
open PySem PySem.Spec PyProof.Rows L2 SB
open R7244e.Spec (storeWalker storeEnumeration walkerAt enumerationAt)
section
variable {K : PySem.W.Frag} {mg : Str → Option Value} {T : TX K mg} {I M : Addr → Prop} {H H' : Hp}
variable {X : Addr → HO → Prop} {s dx lw le : Addr} {w : SWorld} {ws es : List V} {MW ME : Nat → Addr → Prop}
theorem at_storeW {w : SWorld} {i j : Nat} {h : Walker} (hi : i < w.walkers.length) : walkerAt (storeWalker w i h) j = if j = i then some h else walkerAt w j := by
  unfold walkerAt storeWalker
  rw [List.getD_eq_getElem?_getD, List.getD_eq_getElem?_getD]
  by_cases e : j = i
  · subst e
    rw [if_pos rfl, List.getElem?_set_self hi]
    rfl
  · rw [if_neg e, List.getElem?_set_ne (fun z => e z.symm)]
theorem at_storeE {w : SWorld} {i j : Nat} {h : Enum} (hi : i < w.enumerations.length) : enumerationAt (storeEnumeration w i h) j = if j = i then some h else enumerationAt w j := by
  unfold enumerationAt storeEnumeration
  rw [List.getD_eq_getElem?_getD, List.getD_eq_getElem?_getD]
  by_cases e : j = i
  · subst e
    rw [if_pos rfl, List.getElem?_set_self hi]
    rfl
  · rw [if_neg e, List.getElem?_set_ne (fun z => e z.symm)]
/-- the walk of one slot goes on -/
theorem WoF.walk (f : WoF T I X H s w dx lw le ws es MW ME) {i : Nat} (hi : i < 3) (hM : ∀ b, M b → MW i b) (fR : OffR T M I H) (c : Chg M H H') (hA : ∀ b, M b → H' b ≠ none) {v : V} (hv : ws[i]? = some v) {h' : Walker} (q : SlW T I H' v (some h') (MW i)) :
    WoF T I X H' s (storeWalker w i h') dx lw le ws es MW ME where
  f_s := c _ _ f.f_s fun m => (f.wl i _ (hM _ m)).2.2 rfl
  f_lw := c _ _ f.f_lw fun m => (f.wl i _ (hM _ m)).1 rfl
  f_le := c _ _ f.f_le fun m => (f.wl i _ (hM _ m)).2.1 rfl
  lenW := ⟨f.lenW.1, by simp [storeWalker, f.lenW.2]⟩
  lenE := f.lenE
  nI := f.nI
  al := fun b hb z => by
    by_cases m : M b
    · exact hA b m z
    · cases e : H b with
      | none => exact f.al b hb e
      | some o => rw [c _ _ e m] at z; cases z
  f_w := fun j hj => by
    have hl : i < w.walkers.length := by rw [f.lenW.2]; exact hi
    rw [at_storeW hl]
    by_cases e : j = i
    · subst e
      rw [if_pos rfl]
      exact ⟨v, hv, q⟩
    · rw [if_neg e]
      obtain ⟨u, hu, q2⟩ := f.f_w j hj
      exact ⟨u, hu, q2.off fR (fun b nb m => e (f.ww j i b nb (hM b m))) c⟩
  f_e := fun j hj => by
    obtain ⟨u, hu, q2⟩ := f.f_e j hj
    exact ⟨u, hu, q2.off fR (fun b nb m => f.we i j b (hM b m) nb) c⟩
  ww := f.ww
  ee := f.ee
  we := f.we
  wl := f.wl
  el := f.el
  x := fun b o z => ⟨c _ _ (f.x b o z).1 (fun m => ((f.x b o z).2.2.2.2.2 i hi).1 (hM b m)), (f.x b o z).2⟩
theorem SlW.alloc {v : V} {o : Option Walker} {N : Addr → Prop} (q : SlW T I H v o N) {b : Addr} (n : N b) : H b ≠ none := by
  cases o with
  | none => exact absurd n (q.2 b)
  | some h =>
    obtain ⟨a, cd, R, vr, ⟨_, _, _, ⟨_, _, _, _, ha, hR, _⟩, _⟩, m⟩ := q
    obtain ⟨kvs, hc⟩ := hR.cd
    rcases (m b).mp n with rfl | rfl
    · rw [ha]; simp
    · rw [hc]; simp
theorem SlE.alloc {v : V} {o : Option Enum} {N : Addr → Prop} (q : SlE T I H v o N) {b : Addr} (n : N b) : H b ≠ none := by
  cases o with
  | none => exact absurd n (q.2 b)
  | some h =>
    obtain ⟨a, cd, rr, R, vr, ⟨_, ⟨_, _, _, ha, hR, ⟨_, w1, _⟩, _⟩, _⟩, m⟩ := q
    obtain ⟨kvs, hc⟩ := hR.cd
    rcases (m b).mp n with rfl | rfl | rfl
    · rw [ha]; simp
    · rw [hc]; simp
    · rw [w1]; simp
theorem SlW.iff {v : V} {o : Option Walker} {N N' : Addr → Prop} (e : ∀ b, N' b ↔ N b) (q : SlW T I H v o N) : SlW T I H v o N' := by
  have : N' = N := funext fun b => propext (e b)
  rw [this]
  exact q
theorem SlE.iff {v : V} {o : Option Enum} {N N' : Addr → Prop} (e : ∀ b, N' b ↔ N b) (q : SlE T I H v o N) : SlE T I H v o N' := by
  have : N' = N := funext fun b => propext (e b)
  rw [this]
  exact q
/-- the enumeration of one slot goes on; its list may be a new one -/
theorem WoF.enum (f : WoF T I X H s w dx lw le ws es MW ME) {i : Nat} (hi : i < 3) (hM : ∀ b, M b → ME i b) (fR : OffR T M I H) (c : Chg M H H') (hA : ∀ b, M b → H' b ≠ none) {v : V} (hv : es[i]? = some v) {h' : Enum} {M' : Addr → Prop} (hM' : ∀ b, M' b → ME i b ∨ H b = none) (q : SlE T I H' v (some h') M') :
    WoAt T I X H' s (storeEnumeration w i h') := by
  refine ⟨dx, lw, le, ws, es, fun j b => MW j b ∧ j < 3, fun j b => (if j = i then M' b else ME j b) ∧ j < 3, ?_⟩
  have aw : ∀ {j b}, j < 3 → MW j b → H b ≠ none := fun hj n => by
    obtain ⟨u, _, q2⟩ := f.f_w _ hj
    exact q2.alloc n
  have ae : ∀ {j b}, j < 3 → ME j b → H b ≠ none := fun hj n => by
    obtain ⟨u, _, q2⟩ := f.f_e _ hj
    exact q2.alloc n
  refine ⟨c _ _ f.f_s fun m => (f.el i _ (hM _ m)).2.2 rfl, c _ _ f.f_lw fun m => (f.el i _ (hM _ m)).1 rfl, c _ _ f.f_le fun m => (f.el i _ (hM _ m)).2.1 rfl, f.lenW, ⟨f.lenE.1, by simp [storeEnumeration, f.lenE.2]⟩, f.nI, ?_, ?_, ?_, ?_, ?_, ?_, ?_, ?_, ?_⟩
  · intro b hb z
    by_cases m : M b
    · exact hA b m z
    · cases e : H b with
      | none => exact f.al b hb e
      | some o => rw [c _ _ e m] at z; cases z
  · intro j hj
    obtain ⟨u, hu, q2⟩ := f.f_w j hj
    exact ⟨u, hu, SlW.iff (fun b => ⟨fun z => z.1, fun z => ⟨z, hj⟩⟩) (q2.off fR (fun b nb m => f.we j i b nb (hM b m)) c)⟩
  · intro j hj
    have hl : i < w.enumerations.length := by rw [f.lenE.2]; exact hi
    rw [at_storeE hl]
    by_cases e : j = i
    · subst e
      rw [if_pos rfl]
      exact ⟨v, hv, SlE.iff (fun b => ⟨fun z => by have := z.1; rwa [if_pos rfl] at this, fun z => ⟨by rw [if_pos rfl]; exact z, hj⟩⟩) q⟩
    · rw [if_neg e]
      obtain ⟨u, hu, q2⟩ := f.f_e j hj
      exact ⟨u, hu, SlE.iff (fun b => ⟨fun z => by have := z.1; rwa [if_neg e] at this, fun z => ⟨by rw [if_neg e]; exact z, hj⟩⟩) (q2.off fR (fun b nb m => e (f.ee j i b nb (hM b m))) c)⟩
  · intro j k b h1 h2
    exact f.ww j k b h1.1 h2.1
  · rintro j k b ⟨h1, j3⟩ ⟨h2, k3⟩
    by_cases ej : j = i
    · rw [if_pos ej] at h1
      by_cases ek : k = i
      · rw [ej, ek]
      · rw [if_neg ek] at h2
        rcases hM' b h1 with z | z
        · rw [ej]; exact f.ee i k b z h2
        · exact absurd z (ae k3 h2)
    · rw [if_neg ej] at h1
      by_cases ek : k = i
      · rw [if_pos ek] at h2
        rcases hM' b h2 with z | z
        · rw [ek]; exact f.ee j i b h1 z
        · exact absurd z (ae j3 h1)
      · rw [if_neg ek] at h2
        exact f.ee j k b h1 h2
  · rintro j k b ⟨h1, j3⟩ ⟨h2, k3⟩
    by_cases ek : k = i
    · rw [if_pos ek] at h2
      rcases hM' b h2 with z | z
      · exact f.we j i b h1 z
      · exact absurd z (aw j3 h1)
    · rw [if_neg ek] at h2
      exact f.we j k b h1 h2
  · intro j b h
    exact f.wl j b h.1
  · rintro j b ⟨h, j3⟩
    by_cases ej : j = i
    · rw [if_pos ej] at h
      rcases hM' b h with z | z
      · exact f.el i b z
      · refine ⟨fun e => ?_, fun e => ?_, fun e => ?_⟩
        · rw [e, f.f_lw] at z; cases z
        · rw [e, f.f_le] at z; cases z
        · rw [e, f.f_s] at z; cases z
    · rw [if_neg ej] at h
      exact f.el j b h
  · intro b o z
    obtain ⟨x1, x2, x3, x4, x5, x6⟩ := f.x b o z
    refine ⟨c _ _ x1 (fun m => (x6 i hi).2 (hM b m)), x2, x3, x4, x5, fun j hj => ⟨fun y => (x6 j hj).1 y.1, fun y => ?_⟩⟩
    have y := y.1
    by_cases ej : j = i
    · rw [if_pos ej] at y
      rcases hM' b y with y | y
      · exact (x6 i hi).2 y
      · rw [x1] at y; cases y
    · rw [if_neg ej] at y
      exact (x6 j hj).2 y
end
end SP

/-! ## E5 -/
set_option maxHeartbeats 4000000
namespace SP
open PySem PySem.Spec PyProof.Rows L2 SB
open SS (VC VG R Sz RateOk treeW ratesOf leadsTo)
open R7244e.Spec (reachable recurrentStates hasOneClass canMeet distribution wordProb endState coverage separation unstopped stopProbs survival entry target)
section
variable {P : Program} {w : World} {base : Heap}
variable {K : PySem.W.Frag} {mg : Str → Option Value}

open R7244e.Spec (readInt readState readChain readAll readNumber readBias readStart runCall readThreshold)
theorem thr_good {i n : Int} (h0 : 0 ≤ i) (h2 : i ≤ n) (h1 : 1 ≤ n) (h3 : n ≤ 12) (h4 : Nat.gcd i.toNat n.toNat = 1) : readThreshold (.arr [.num (some i), .num (some n)]) = .ok (i.toNat, n.toNat) := by
  have e1 : readInt 0 12 (.num (some i)) = some i.toNat := by
    have e0 : readInt 0 12 (.num (some i)) = if ((0 : Nat) : Int) ≤ i ∧ i ≤ ((12 : Nat) : Int) then some i.toNat else none := rfl
    rw [e0, if_pos (by omega)]
  have e2 : readInt 1 12 (.num (some n)) = some n.toNat := by
    have e0 : readInt 1 12 (.num (some n)) = if ((1 : Nat) : Int) ≤ n ∧ n ≤ ((12 : Nat) : Int) then some n.toNat else none := rfl
    rw [e0, if_pos (by omega)]
  show (match readInt 0 12 (.num (some i)), readInt 1 12 (.num (some n)) with
      | some i, some n => if i ≤ n ∧ Nat.gcd i n = 1 then (.ok (i, n) : R7244e.Spec.Res Bias) else R7244e.Spec.failType "threshold must be a fraction from 0 to 1 with a denominator of at most 12"
      | _, _ => R7244e.Spec.failType "threshold must be a fraction from 0 to 1 with a denominator of at most 12") = _
  rw [e1, e2]
  exact if_pos ⟨by omega, h4⟩
theorem thr_err {y : Plain} (h : ∀ g, readThreshold y ≠ .ok g) : readThreshold y = .error (R7244e.Spec.wrong "threshold must be a fraction from 0 to 1 with a denominator of at most 12") := by
  match y, h with
  | .arr [a, b], h =>
    have e0 : readThreshold (.arr [a, b]) = (match readInt 0 12 a, readInt 1 12 b with
      | some i, some n => if i ≤ n ∧ Nat.gcd i n = 1 then (.ok (i, n) : R7244e.Spec.Res Bias) else R7244e.Spec.failType "threshold must be a fraction from 0 to 1 with a denominator of at most 12"
      | _, _ => R7244e.Spec.failType "threshold must be a fraction from 0 to 1 with a denominator of at most 12") := rfl
    rw [e0] at h ⊢
    cases e1 : readInt 0 12 a with
    | none => cases readInt 1 12 b <;> rfl
    | some i =>
      cases e2 : readInt 1 12 b with
      | none => rfl
      | some n =>
        rw [e1, e2] at h
        simp only at h ⊢
        by_cases c : i ≤ n ∧ Nat.gcd i n = 1
        · exact absurd (if_pos c) (h (i, n))
        · rw [if_neg c]
          rfl
  | .arr [], h => rfl
  | .arr [_], h => rfl
  | .arr (_ :: _ :: _ :: _), h => rfl
  | .undef, h => rfl
  | .null, h => rfl
  | .bool _, h => rfl
  | .num _, h => rfl
  | .str _, h => rfl
  | .obj _, h => rfl
  | .big, h => rfl
theorem m_thr : asc "threshold must be a fraction from 0 to 1 with a denominator of at most 12" ∧ ("threshold must be a fraction from 0 to 1 with a denominator of at most 12" : Str).cps.size ≤ 1000 ∧ ustr "threshold must be a fraction from 0 to 1 with a denominator of at most 12" = R7244e.Spec.units "threshold must be a fraction from 0 to 1 with a denominator of at most 12" := by unfold asc; decide +kernel
theorem mt_eq {x y z u : Plain} : R7244e.Spec.answer id (R7244e.Spec.mixingTimeFn x y z u) = (match readRu x y z with
    | .ok R => (match readThreshold u with
      | .ok r => .ret (R7244e.Spec.orNull R7244e.Spec.nat (R7244e.Spec.mixingTime R.t R.g R.y R.p (mkRat (Int.ofNat r.1) r.2) 8))
      | .error e => .fail e)
    | .error e => .fail e) := by
  unfold R7244e.Spec.mixingTimeFn readRu R7244e.Spec.withStationary R7244e.Spec.withChain R7244e.Spec.andThen
  cases readChain x with
  | error e => rfl
  | ok t =>
    cases readBias y with
    | error e => rfl
    | ok g =>
      simp only [readStart, R7244e.Spec.failRange]
      cases readInt 0 (t.length - 1) z with
      | none => rfl
      | some p =>
        simp only
        cases R7244e.Spec.stationaryOf t g with
        | none => rfl
        | some l => simp only; cases readThreshold u <;> rfl
theorem mk_nd {i n : Int} (h0 : 0 ≤ i) (h1 : 1 ≤ n) (h4 : Nat.gcd i.toNat n.toNat = 1) : (mkRat (Int.ofNat i.toNat) n.toNat).num = i ∧ (((mkRat (Int.ofNat i.toNat) n.toNat).den : Nat) : Int) = n := by
  have hp : 0 < n.toNat := by omega
  have ei : (Int.ofNat i.toNat) = i := Int.toNat_of_nonneg h0
  have hg : Nat.gcd (Int.ofNat i.toNat).natAbs n.toNat = 1 := by
    show Nat.gcd ((i.toNat : Nat) : Int).natAbs n.toNat = 1
    rw [Int.natAbs_natCast]
    exact h4
  have a := SS.frac_num (Int.ofNat i.toNat) n.toNat hp
  have b := SS.frac_den (Int.ofNat i.toNat) n.toNat hp
  rw [hg] at a b
  constructor
  · rw [← a, ei]
    exact Int.ediv_one i
  · rw [← b, Int.toNat_of_nonneg (by omega)]
    exact Int.ediv_one n
abbrev s_mixing_time : Stmt := topS 65
theorem sc_mixing_time : FnScope ["slots", "args", "own", "steps"] ["slots", "args"] (defScope s_mixing_time) := SB.sc_by (by decide +kernel)
theorem ok_mixing_time (T : TX K mg) (c_is_below : SB.Cal P w K mg base 1 "is_below" (sp_is_belowL T)) (c_is_fraction : SB.Cal P w K mg base 2 "is_fraction" (sp_is_fraction T)) (c_refuse : SB.CalX P w K mg base 3 "refuse" (sp_refuse T)) (c_rule_in : SB.CalX P w K mg base 7 "rule_in" (sp_rule_in T)) (m_Rule_separation : SB.Met P w K mg base 5 T.Rule "separation" (sp_Rule_separation T))  {f : Addr} {fd : FuncData} (F : Fun K "mixing_time" "mixing_time" s_mixing_time f fd) : FnOk P w K mg base (L2N.CX P w) 8 f fd ["slots", "args"] (sp_mixing_time T) := by
  refine SB.okN F sc_mixing_time len_mixing_time (fun cdv A outer s H vs Q E hr h => ⟨_, (pss_cons (ps_set (i := 2) sc_mixing_time.nd rfl (by first | exact Or.inl rfl | exact Or.inr rfl) (SB.pe_cX c_rule_in hr (by decide) rfl (L2N.takes_of rfl rfl rfl rfl) (by exact (pa_cons (pv 1) pa_nil)))) (pss_cons (ps_if (PW.pt (pw_or (pt_not (pt_val (SB.cal c_is_fraction hr (by decide) rfl (pa_cons (pe_ix (SB.kIxL (K := K) rfl) (pv 1) pe_int (fun _ _ => rfl)) (pa_cons pe_int pa_nil))))) (pw_or1 (pt_cmpR op_gt (pe_ix (SB.kIxL (K := K) rfl) (pe_ix (SB.kIxL (K := K) rfl) (pv 1) pe_int (fun _ _ => rfl)) pe_int (fun _ _ => rfl)) (pe_ix (SB.kIxL (K := K) rfl) (pe_ix (SB.kIxL (K := K) rfl) (pv 1) pe_int (fun _ _ => rfl)) pe_int (fun _ _ => rfl)) (nomark _))))) (pss_one (ps_expr (SB.pe_cX c_refuse hr (by decide) rfl (L2N.takes_of rfl rfl rfl rfl) (by exact (pa_cons (pe_glob (v := .int 1) rfl T.gWRONG_KIND ⟨_, rfl⟩) (pa_cons pe_str pa_nil)))))) pss_nil) (pss_cons (ps_for (by first | exact PassesOwn.never | exact passes_of rfl) rfl (pi_range1 (by rfl) T.b_range (pa_cons (pe_op op_add (pe_glob (v := .int 8) rfl T.gMOST_STEPS ⟨_, rfl⟩) pe_int) pa_nil)) (pg_name (i := 3) sc_mixing_time.nd rfl (by first | exact Or.inl rfl | exact Or.inr rfl)) (pss_one (ps_if (pt_not (pt_val (SB.cal c_is_below hr (by decide) rfl (pa_cons (pe_ix (SB.kIxL (K := K) rfl) (pv 1) pe_int (fun _ _ => rfl)) (pa_cons (SB.met m_Rule_separation hr (by decide) (pv 2) (pa_cons (pv 3) pa_nil)) pa_nil))))) (pss_one (ps_ret (pv 3))) pss_nil))) (pss_one (ps_ret pe_non))))), ?_⟩)
  obtain ⟨s0, aa, l, w, c, I, X, rfl, hW, ⟨avs, hq, hps⟩, hl, hc, hin, q, e⟩ := h
  obtain ⟨x, y, z, u, rfl⟩ : ∃ x y z u, l = [x, y, z, u] := by
    match l, hl with
    | [x, y, z, u], _ => exact ⟨x, y, z, u, rfl⟩
  have ec : c = .fn (.mixingTime x y z u) := by
    have h : Rust.callOf 6 [x, y, z, u] = some (.fn (.mixingTime x y z u)) := rfl
    rw [h] at hc
    exact (Option.some.inj hc).symm
  subst ec
  obtain ⟨v0, v1, v2, v3, vl, rfl, p0, p1, p2, p3⟩ := args_four hps
  obtain ⟨mt1, mt2, mt3⟩ := m_thr
  have eqn : (runCall w (.fn (.mixingTime x y z u))).2 = _ := mt_eq (x := x) (y := y) (z := z) (u := u)
  refine ⟨_, rfl, aa, x, y, z, [u], I, rfl, ⟨_, hq, hps⟩, fun R eR H1 r cd s1 hcd hR => ?_, fun er ee H' d s' h' => e _ (by rw [eqn, ee]) H' I d (hW.same s') h'⟩
  rw [eR] at eqn
  simp only at eqn
  have vr := ru_vr p0 p2 eR
  have hq1 := seq_same s1 hq
  refine ⟨_, rfl, aa, _, 3, v3, rfl, rfl, hq1, at3, v3, u, 12, I, rfl, p3.same s1, fun H2 s2 => ⟨_, rfl, ?_⟩⟩
  have s12 := s1.trans s2
  have hq2 := seq_same s12 hq
  have bad : ∀ {σ5 : L2.St} {D : Ends}, (∀ g, readThreshold u ≠ .ok g) → (tDrop (tCallS (sp_refuse T) (WE fun cls d _ H => E cls d H) (tCons (tC (V.int 1)) (tCons (tC (V.str (Str.ofString "threshold must be a fraction from 0 to 1 with a denominator of at most 12"))) tNil)))) D σ5 H2 := by
    intro σ5 D h
    have eb := thr_err h
    rw [eb] at eqn
    exact ⟨1, _, rfl, fun H' d s' h' => e _ eqn H' I d (hW.same (s12.trans s')) ⟨_, 1, h', mt1, mt2, mt3, rfl⟩⟩
  cases c1 : isFr 12 u with
  | false =>
    refine itT rfl (itT rfl (bad fun g hg => ?_))
    obtain ⟨i, n, rfl, h1, h2, h3, h4, h5, _⟩ := thr_inv hg
    have : isFr 12 (.arr [.num (some i), .num (some n)]) = decide (0 ≤ i ∧ 1 ≤ n ∧ n ≤ ((12 : Nat) : Int) ∧ Nat.gcd i.toNat n.toNat = 1) := rfl
    rw [this, decide_eq_true ⟨by omega, by omega, by omega, h5⟩] at c1
    cases c1
  | true =>
    obtain ⟨l2, rfl⟩ : ∃ l, u = .arr l := by
      cases u <;> first | exact ⟨_, rfl⟩ | cases c1
    obtain ⟨i, n, rfl⟩ := isFr_arr c1
    have hf : isFr 12 (.arr [.num (some i), .num (some n)]) = decide (0 ≤ i ∧ 1 ≤ n ∧ n ≤ ((12 : Nat) : Int) ∧ Nat.gcd i.toNat n.toNat = 1) := rfl
    rw [hf] at c1
    obtain ⟨f1, f2, f3, f4⟩ := of_decide_eq_true c1
    obtain ⟨ba, rfl, hb⟩ : ∃ ba, v3 = .ref ba ∧ SqL K H ba [.int i, .int n] := by
      cases p3 with
      | @arr ba vs l i2 hqb hps2 =>
        rw [plsAt_two hps2] at hqb
        exact ⟨ba, rfl, hqb⟩
    have hb2 := seq_same s12 hb
    refine itF rfl ⟨_, rfl, aa, _, 3, _, rfl, rfl, hq2, at3, ba, _, 0, _, rfl, rfl, hb2, rfl, _, rfl, aa, _, 3, _, rfl, rfl, hq2, at3, ba, _, 1, _, rfl, rfl, hb2, rfl, _, _, rfl, rfl, _, rfl, ?_⟩
    refine ite2 (fun c2 => ?_) (fun c2 => ?_)
    · have c2 : n < i := of_decide_eq_true c2
      refine bad fun g hg => ?_
      obtain ⟨i', n', e', h1, h2, _⟩ := thr_inv hg
      cases e'
      omega
    · have c2 : ¬ n < i := fun z => c2 (decide_eq_true z)
      rw [thr_good f1 (by omega) f2 (by omega) f4] at eqn
      simp only at eqn
      obtain ⟨nd1, nd2⟩ := mk_nd f1 f2 f4
      have sx : Sz 1000 (mkRat (Int.ofNat i.toNat) n.toNat) := SS.Sz.mono (SS.Sz_mkRat (k := 10) (by omega) (by show ((i.toNat : Nat) : Int).natAbs < _; rw [Int.natAbs_natCast]; omega) (by omega)) (by decide)
      have hx : [V.int i, V.int n] = [.int (mkRat (Int.ofNat i.toNat) n.toNat).num, .int ((mkRat (Int.ofNat i.toNat) n.toNat).den : Nat)] := by rw [nd1, nd2]
      rw [hx] at hb
      have q1 := q _ eqn
      generalize mkRat (Int.ofNat i.toNat) n.toNat = X at *
      have hR2 := hR.same s2
      obtain ⟨ra, _, _, _, _, rfl, _⟩ := id hR2
      refine ⟨_, _, rfl, rfl, _, rfl, by decide, by decide, ?_⟩
      show ∃ W, _
      refine for_range (lo := 0) (n := 9) (fun k σ H' => ∃ o3 : Option V, σ = [some (.ref s0), some (.ref aa), some (.ref ra), o3] ∧ Same H H' ∧ RuAt T (New I H H1) H' (.ref ra) cd R ∧ ∀ j, j < k → ¬ R7244e.Spec.separation R.t R.g R.y R.p j ≤ X)
        ⟨none, rfl, s12, hR2, fun j h => by omega⟩ ?_ ?_
      · rintro k σ H3 hk ⟨o3, rfl, s3, r3, hno⟩
        have ei : (0 : Int) + (k : Nat) = ((k : Nat) : Int) := by omega
        rw [ei]
        obtain ⟨rdx, d, rs, kvs, hra, _⟩ := r3.open
        refine ⟨_, rfl, aa, _, 3, _, rfl, rfl, seq_same s3 hq, at3, _, rfl, ra, _, _, rfl, hra, noRule_separation, _, rfl, .ref ra, cd, R, k, New I H H1, rfl, vr, by omega, r3, fun H4 sv c4 r4 f4 => ?_⟩
        have s4 := same_in s3 c4 hcd
        have sS : Sz 1000 (R7244e.Spec.separation R.t R.g R.y R.p k) := (SS.Sz_sub (SS.Sz_one 34 (by decide)) (SS.cov_sz vr.v vr.g vr.r vr.p k (by omega))).mono (by decide)
        refine ⟨ba, sv, X, _, rfl, seq_same s4 hb, f4, sx, sS, _, rfl, ?_⟩
        cases c5 : decide (X < R7244e.Spec.separation R.t R.g R.y R.p k) with
        | true =>
          have c5 := of_decide_eq_true c5
          refine itF rfl ⟨some (intT k), rfl, s4, r4, fun j hj => ?_⟩
          by_cases ej : j = k
          · subst ej
            exact Rat.not_le.mpr c5
          · exact hno j (by omega)
        | false =>
          have c5 : R7244e.Spec.separation R.t R.g R.y R.p k ≤ X := Rat.not_lt.mp (of_decide_eq_false c5)
          have em : R7244e.Spec.mixingTime R.t R.g R.y R.p X 8 = some k := by
            unfold R7244e.Spec.mixingTime
            rw [List.find?_range_eq_some]
            exact ⟨decide_eq_true c5, List.mem_range.mpr (by omega), fun j hj => by rw [decide_eq_false (hno j hj)]; rfl⟩
          rw [em] at q1
          exact itT rfl ⟨_, rfl, q1 H4 I (fun _ => False) _ (hW.same s4) (.num _) (fun _ h => h.elim)⟩
      · rintro σ H3 ⟨o3, rfl, s3, r3, hno⟩
        have em : R7244e.Spec.mixingTime R.t R.g R.y R.p X 8 = none := by
          unfold R7244e.Spec.mixingTime
          rw [List.find?_eq_none]
          intro j hj
          have := hno j (by have := List.mem_range.mp hj; omega)
          rw [decide_eq_false this]
          decide
        rw [em] at q1
        exact q1 H3 I (fun _ => False) .non (hW.same s3) .null (fun _ h => h.elim)

end
end SP

/-! ## E6 -/
set_option maxHeartbeats 4000000
namespace SP
open PySem PySem.Spec PyProof.Rows L2 SB
open SS (VC VG R Sz RateOk treeW ratesOf leadsTo)
open R7244e.Spec (reachable recurrentStates hasOneClass canMeet distribution wordProb endState coverage separation unstopped stopProbs survival entry target)
section
variable {P : Program} {w : World} {base : Heap}
variable {K : PySem.W.Frag} {mg : Str → Option Value}

open R7244e.Spec (runCall walkerAt hasWalker)
theorem slot_inv {T : TX K mg} {I : Addr → Prop} {H : Hp} {v : V} {x : Plain} {k : Nat} (hp : PlAt T I H false v x) (h : Rust.slotOf 2 x = some k) : v = intT k ∧ k < 3 := by
  cases hp with
  | num i =>
    have h : (some i : Option Int).bind (fun k => if (decide (0 ≤ k) && Nat.ble k.toNat 2) = true then some k.toNat else none) = some k := h
    have h : (if (decide (0 ≤ i) && Nat.ble i.toNat 2) = true then some i.toNat else none) = some k := h
    by_cases c : (decide (0 ≤ i) && Nat.ble i.toNat 2) = true
    · rw [if_pos c] at h
      rw [Bool.and_eq_true, decide_eq_true_eq] at c
      have h := Option.some.inj h
      have c2 := Nat.le_of_ble_eq_true c.2
      refine ⟨?_, by omega⟩
      rw [← h, intT, Int.toNat_of_nonneg c.1]
    · rw [if_neg c] at h
      cases h
  | undef h' => cases h
  | null => cases h
  | bool y => cases h
  | str h' hq => cases h
  | pstr s z c => cases z
  | arr i hq l => cases h
  | obj h' i hq l => cases h
abbrev s_walk_close : Stmt := topS 71
theorem sc_walk_close : FnScope ["slots", "args", "own"] ["slots", "args"] (defScope s_walk_close) := SB.sc_by (by decide +kernel)
theorem ok_walk_close (T : TX K mg) (m_Nothing : SB.Mak P w K mg base 1 "Nothing" T.Nothing (sp_Nothing___init__ T))  {f : Addr} {fd : FuncData} (F : Fun K "walk_close" "walk_close" s_walk_close f fd) : FnOk P w K mg base (L2N.CX P w) 3 f fd ["slots", "args"] (sp_walk_close T) := by
  refine SB.okN F sc_walk_close len_walk_close (fun cdv A outer s H vs Q E hr h => ⟨_, (pss_cons (ps_set (i := 2) sc_walk_close.nd rfl (by first | exact Or.inl rfl | exact Or.inr rfl) (pe_ix (SB.kIxL (K := K) rfl) (SB.kFld (K := K) rfl (pv 0) rfl) (pe_ix (SB.kIxL (K := K) rfl) (pv 1) pe_int (fun _ _ => rfl)) (fun _ _ => rfl))) (pss_cons (ps_fld (pv 2) pe_bl rfl) (pss_one (ps_ret (SB.mak0 m_Nothing hr (by decide) rfl))))), ?_⟩)
  obtain ⟨s0, aa, l, w, c, I, X, rfl, hW, ⟨avs, hq, hps⟩, hl, hc, hin, q, e⟩ := h
  obtain ⟨x, rfl⟩ : ∃ x, l = [x] := by
    match l, hl with
    | [x], _ => exact ⟨x, rfl⟩
  obtain ⟨k, ek, rfl⟩ : ∃ k, Rust.slotOf 2 x = some k ∧ c = .walkerDispose k := by
    have h : Rust.callOf 11 [x] = (Rust.slotOf 2 x).bind fun s0 => some (.walkerDispose s0) := rfl
    rw [h] at hc
    cases e1 : Rust.slotOf 2 x with
    | none => rw [e1] at hc; cases hc
    | some k => rw [e1] at hc; exact ⟨k, rfl, (Option.some.inj hc).symm⟩
  obtain ⟨v0, vl, rfl, p0, _⟩ := args_n1 hps
  obtain ⟨rfl, hk⟩ := slot_inv p0 ek
  obtain ⟨h, eh⟩ : ∃ h, walkerAt w k = some h := by
    have hin : hasWalker w k = true := hin
    unfold hasWalker at hin
    rw [Bool.and_eq_true] at hin
    exact Option.isSome_iff_exists.mp hin.2
  obtain ⟨dxs, lw, le, ws, es, MW, ME, f⟩ := hW
  obtain ⟨v, hv, qs⟩ := f.f_w k hk
  rw [eh] at qs
  obtain ⟨a, cd, R, vr, hK, hm⟩ := id qs
  obtain ⟨w0, st, fi, hWR, hst, e1, e2, e3, e4⟩ := id hK
  obtain ⟨dx, r, wv, rfl, ha, hR, hw, l8, lt⟩ := id hWR
  have er : runCall w (.walkerDispose k) = (R7244e.Spec.storeWalker w k { h with stage := .finished }, .ret .undef) := by
    show R7244e.Spec.onWalker w k _ = _
    unfold R7244e.Spec.onWalker
    rw [eh]
    rfl
  rw [er] at q
  refine ⟨_, rfl, s0, T.Slots, _, _, _, rfl, f.f_s, T.clSlots, T.nSlots_walks, lkSlots_walks, _, rfl, aa, _, 0, _, rfl, rfl, hq, at0, lw, ws, _, .ref a, rfl, rfl, SqL.of f.f_lw, atI_nat hv, _, rfl, a, T.Walk, dx, _, rfl, ha, T.clWalk, T.nWalk_is_finished, (show 4 < 1000 by decide), ?_⟩
  rw [pfWalk_is_finished]
  have c3 : Chg (· = a) H (upd H a (.ins T.Walk dx [("rule", r), ("word", wv), ("is_started", .bl st), ("is_finished", .bl true)])) := chg1
  have h3 : upd H a (.ins T.Walk dx [("rule", r), ("word", wv), ("is_started", .bl st), ("is_finished", .bl true)]) a = some (.ins T.Walk dx [("rule", r), ("word", wv), ("is_started", .bl st), ("is_finished", .bl true)]) := upd_same
  generalize upd H a (.ins T.Walk dx [("rule", r), ("word", wv), ("is_started", .bl st), ("is_finished", .bl true)]) = H3 at c3 h3 ⊢
  have W3 : WkR T I H3 (.ref a) a cd R w0 st true := WkR.put ha (show 4 ≠ 1 by decide) hR hw l8 lt c3 h3
  have f3 := f.walk (M := (· = a)) (h' := { h with stage := .finished }) hk (fun b hb => (hm b).mpr (.inl hb)) (offIR ha T.neWR T.neWD) c3 (fun b hb => by rw [hb, h3]; simp) hv ⟨a, cd, R, vr, ⟨w0, st, true, W3, rfl, e1, e2, e3, e4⟩, hm⟩
  intro x dx2 hx hdx nd
  refine ⟨x, dx2, rfl, upd_same, fun H2 en c2 h2 => ⟨rfl, ?_⟩⟩
  have s2 := mk_same hx hdx c2
  exact q .undef rfl H2 I (fun _ => False) _ (WoAt.same s2 ⟨dxs, lw, le, ws, es, MW, ME, f3⟩) (.undef h2) (fun _ h => h.elim)

end
end SP

/-! ## E7 -/
set_option maxHeartbeats 4000000
namespace SP
open PySem PySem.Spec PyProof.Rows L2 SB
open SS (VC VG R Sz RateOk treeW ratesOf leadsTo)
open R7244e.Spec (reachable recurrentStates hasOneClass canMeet distribution wordProb endState coverage separation unstopped stopProbs survival entry target)
section
variable {P : Program} {w : World} {base : Heap}
variable {K : PySem.W.Frag} {mg : Str → Option Value}

open R7244e.Spec (runCall walkerAt hasWalker)
abbrev s_walk_finish : Stmt := topS 70
theorem sc_walk_finish : FnScope ["slots", "args", "own"] ["slots", "args"] (defScope s_walk_finish) := SB.sc_by (by decide +kernel)
theorem ok_walk_finish (T : TX K mg) (c_value_done : SB.Cal P w K mg base 4 "value_done" (sp_value_done T))  {f : Addr} {fd : FuncData} (F : Fun K "walk_finish" "walk_finish" s_walk_finish f fd) : FnOk P w K mg base (L2N.CX P w) 5 f fd ["slots", "args"] (sp_walk_finish T) := by
  refine SB.okN F sc_walk_finish len_walk_finish (fun cdv A outer s H vs Q E hr h => ⟨_, (pss_cons (ps_set (i := 2) sc_walk_finish.nd rfl (by first | exact Or.inl rfl | exact Or.inr rfl) (pe_ix (SB.kIxL (K := K) rfl) (SB.kFld (K := K) rfl (pv 0) rfl) (pe_ix (SB.kIxL (K := K) rfl) (pv 1) pe_int (fun _ _ => rfl)) (fun _ _ => rfl))) (pss_cons (ps_fld (pv 2) pe_bl rfl) (pss_one (ps_ret (SB.cal c_value_done hr (by decide) rfl (pa_cons (pe_tup (pa_cons (pe_ix (SB.kIxL (K := K) rfl) (pv 1) pe_int (fun _ _ => rfl)) (pa_cons pe_bl pa_nil))) pa_nil)))))), ?_⟩)
  obtain ⟨s0, aa, l, w, c, I, X, rfl, hW, ⟨avs, hq, hps⟩, hl, hc, hin, q, e⟩ := h
  obtain ⟨x, y, rfl⟩ : ∃ x y, l = [x, y] := by
    match l, hl with
    | [x, y], _ => exact ⟨x, y, rfl⟩
  obtain ⟨k, ek, rfl⟩ : ∃ k, Rust.slotOf 2 x = some k ∧ c = .walkerRequest k (.ret y) := by
    have h : Rust.callOf 10 [x, y] = (Rust.slotOf 2 x).bind fun s0 => some (.walkerRequest s0 (.ret y)) := rfl
    rw [h] at hc
    cases e1 : Rust.slotOf 2 x with
    | none => rw [e1] at hc; cases hc
    | some k => rw [e1] at hc; exact ⟨k, rfl, (Option.some.inj hc).symm⟩
  obtain ⟨v0, v1, vl, rfl, p0, p1, _⟩ := args_two hps
  obtain ⟨rfl, hk⟩ := slot_inv p0 ek
  obtain ⟨h, eh⟩ : ∃ h, walkerAt w k = some h := by
    have hin : (hasWalker w k && R7244e.Spec.requestFits (.ret y)) = true := hin
    rw [Bool.and_eq_true] at hin
    have hin := hin.1
    unfold hasWalker at hin
    rw [Bool.and_eq_true] at hin
    exact Option.isSome_iff_exists.mp hin.2
  obtain ⟨dxs, lw, le, ws, es, MW, ME, f⟩ := hW
  obtain ⟨v, hv, qs⟩ := f.f_w k hk
  rw [eh] at qs
  obtain ⟨a, cd, R, vr, hK, hm⟩ := id qs
  obtain ⟨w0, st, fi, hWR, hst, e1, e2, e3, e4⟩ := id hK
  obtain ⟨dx, r, wv, rfl, ha, hR, hw, l8, lt⟩ := id hWR
  have er : runCall w (.walkerRequest k (.ret y)) = (R7244e.Spec.storeWalker w k { h with stage := .finished }, .ret (R7244e.Spec.iteratorResult y true)) := by
    show R7244e.Spec.onWalker w k _ = _
    unfold R7244e.Spec.onWalker
    rw [eh]
    rfl
  rw [er] at q
  refine ⟨_, rfl, s0, T.Slots, _, _, _, rfl, f.f_s, T.clSlots, T.nSlots_walks, lkSlots_walks, _, rfl, aa, _, 0, _, rfl, rfl, hq, at0, lw, ws, _, .ref a, rfl, rfl, SqL.of f.f_lw, atI_nat hv, _, rfl, a, T.Walk, dx, _, rfl, ha, T.clWalk, T.nWalk_is_finished, (show 4 < 1000 by decide), ?_⟩
  rw [pfWalk_is_finished]
  have c3 : Chg (· = a) H (upd H a (.ins T.Walk dx [("rule", r), ("word", wv), ("is_started", .bl st), ("is_finished", .bl true)])) := chg1
  have h3 : upd H a (.ins T.Walk dx [("rule", r), ("word", wv), ("is_started", .bl st), ("is_finished", .bl true)]) a = some (.ins T.Walk dx [("rule", r), ("word", wv), ("is_started", .bl st), ("is_finished", .bl true)]) := upd_same
  generalize upd H a (.ins T.Walk dx [("rule", r), ("word", wv), ("is_started", .bl st), ("is_finished", .bl true)]) = H3 at c3 h3 ⊢
  have W3 : WkR T I H3 (.ref a) a cd R w0 st true := WkR.put ha (show 4 ≠ 1 by decide) hR hw l8 lt c3 h3
  have f3 := f.walk (M := (· = a)) (h' := { h with stage := .finished }) hk (fun b hb => (hm b).mpr (.inl hb)) (offIR ha T.neWR T.neWD) c3 (fun b hb => by rw [hb, h3]; simp) hv ⟨a, cd, R, vr, ⟨w0, st, true, W3, rfl, e1, e2, e3, e4⟩, hm⟩
  have hq3 := (offI (I := Any) ha).sqL c3 trivial hq
  have p13 := p1.off (offIP ha (show 4 ≠ 1 by decide)) c3
  refine ⟨_, rfl, aa, _, 1, v1, rfl, rfl, hq3, at1, le_line (by show 2 ≤ _; decide), fun P hP => ?_⟩
  have s4 : Same H3 (upd H3 P (.tup [v1, .bl true])) := same_upd hP
  refine ⟨P, v1, y, true, I, rfl, SqT.of upd_same, (p13.same s4).keep (keeps_same (Same.refl _) fun _ i => i) (fun _ => rfl), al_same s4 f3.al, fun H5 r5 s5 p5 => ?_⟩
  exact q _ rfl H5 I _ _ (WoAt.same (s4.trans s5) ⟨dxs, lw, le, ws, es, MW, ME, f3⟩) p5 (al_new s5 (al_same s4 f3.al))

end
end SP

/-! ## E8 -/
set_option maxHeartbeats 4000000
namespace SP
open PySem PySem.Spec PyProof.Rows L2 SB
open SS (VC VG R Sz RateOk treeW ratesOf leadsTo)
open R7244e.Spec (reachable recurrentStates hasOneClass canMeet distribution wordProb endState coverage separation unstopped stopProbs survival entry target)
section
variable {P : Program} {w : World} {base : Heap}
variable {K : PySem.W.Frag} {mg : Str → Option Value}

open R7244e.Spec (runCall walkerAt hasWalker walkerNext walkerThrow)
abbrev s_walk_next : Stmt := topS 68
theorem sc_walk_next : FnScope ["slots", "args"] ["slots", "args"] (defScope s_walk_next) := SB.sc_by (by decide +kernel)
theorem ok_walk_next (T : TX K mg) (c_value_done : SB.Cal P w K mg base 4 "value_done" (sp_value_done T)) (m_Walk_go_on : SB.Met P w K mg base 9 T.Walk "go_on" (sp_Walk_go_on T))  {f : Addr} {fd : FuncData} (F : Fun K "walk_next" "walk_next" s_walk_next f fd) : FnOk P w K mg base (L2N.CX P w) 10 f fd ["slots", "args"] (sp_walk_next T) := by
  refine SB.okN F sc_walk_next len_walk_next (fun cdv A outer s H vs Q E hr h => ⟨_, (pss_one (ps_ret (SB.cal c_value_done hr (by decide) rfl (pa_cons (SB.met m_Walk_go_on hr (by decide) (pe_ix (SB.kIxL (K := K) rfl) (SB.kFld (K := K) rfl (pv 0) rfl) (pe_ix (SB.kIxL (K := K) rfl) (pv 1) pe_int (fun _ _ => rfl)) (fun _ _ => rfl)) (pa_cons (pe_ix (SB.kIxL (K := K) rfl) (pv 1) pe_int (fun _ _ => rfl)) pa_nil)) pa_nil)))), ?_⟩)
  obtain ⟨s0, aa, l, w, c, I, X, rfl, hW, ⟨avs, hq, hps⟩, hl, hc, hin, q, e⟩ := h
  obtain ⟨x, y, rfl⟩ : ∃ x y, l = [x, y] := by
    match l, hl with
    | [x, y], _ => exact ⟨x, y, rfl⟩
  obtain ⟨k, ek, rfl⟩ : ∃ k, Rust.slotOf 2 x = some k ∧ c = .walkerRequest k (.next y) := by
    have h : Rust.callOf 8 [x, y] = (Rust.slotOf 2 x).bind fun s0 => some (.walkerRequest s0 (.next y)) := rfl
    rw [h] at hc
    cases e1 : Rust.slotOf 2 x with
    | none => rw [e1] at hc; cases hc
    | some k => rw [e1] at hc; exact ⟨k, rfl, (Option.some.inj hc).symm⟩
  obtain ⟨v0, v1, vl, rfl, p0, p1, _⟩ := args_two hps
  obtain ⟨rfl, hk⟩ := slot_inv p0 ek
  obtain ⟨h, eh⟩ : ∃ h, walkerAt w k = some h := by
    have hin : (hasWalker w k && R7244e.Spec.requestFits (.next y)) = true := hin
    rw [Bool.and_eq_true] at hin
    have hin := hin.1
    unfold hasWalker at hin
    rw [Bool.and_eq_true] at hin
    exact Option.isSome_iff_exists.mp hin.2
  obtain ⟨dxs, lw, le, ws, es, MW, ME, f⟩ := hW
  obtain ⟨v, hv, qs⟩ := f.f_w k hk
  rw [eh] at qs
  obtain ⟨a, cd, R, vr, hK, hm⟩ := id qs
  obtain ⟨w0, st, fi, hWR, hst, e1, e2, e3, e4⟩ := id hK
  obtain ⟨dx, r, wv, rfl, ha, hR, hw, l8, lt⟩ := id hWR
  have er : runCall w (.walkerRequest k (.next y)) = (R7244e.Spec.storeWalker w k (walkerNext h y).1, .ret (R7244e.Spec.outcomeValue (.next y) (walkerNext h y).2)) := by
    show R7244e.Spec.onWalker w k _ = _
    unfold R7244e.Spec.onWalker
    rw [eh]
    rfl
  rw [er] at q
  refine ⟨_, rfl, s0, T.Slots, _, _, _, rfl, f.f_s, T.clSlots, T.nSlots_walks, lkSlots_walks, _, rfl, aa, _, 0, _, rfl, rfl, hq, at0, lw, ws, _, .ref a, rfl, rfl, SqL.of f.f_lw, atI_nat hv, a, _, _, rfl, ha, noWalk_go_on, _, rfl, aa, _, 1, v1, rfl, rfl, hq, at1, .ref a, v1, y, a, cd, R, h, I, I, rfl, vr, hK, p1, fun H3 tp o u fl c3 K3 t3 eo po => ⟨tp, o, u, fl, FreshA H H3, rfl, t3, po, fun b hb => hb.2, fun H5 r5 s5 p5 => ?_⟩⟩
  have q3 : SlW T I H3 (.ref a) (some (walkerNext h y).1) (MW k) := ⟨a, cd, R, vr, K3, hm⟩
  have f3 := f.walk (M := Two a cd) hk (fun b hb => (hm b).mpr hb) hK.offR.1 c3 (fun b hb => q3.alloc ((hm b).mpr hb)) hv q3
  rw [eo] at q
  exact q _ rfl H5 I _ _ (WoAt.same s5 ⟨dxs, lw, le, ws, es, MW, ME, f3⟩) p5 (al_new s5 (fun b hb => hb.2))
abbrev s_walk_signal : Stmt := topS 69
theorem sc_walk_signal : FnScope ["slots", "args"] ["slots", "args"] (defScope s_walk_signal) := SB.sc_by (by decide +kernel)
theorem ok_walk_signal (T : TX K mg) (m_Walk_signal : SB.Met P w K mg base 9 T.Walk "signal" (sp_Walk_signal T))  {f : Addr} {fd : FuncData} (F : Fun K "walk_signal" "walk_signal" s_walk_signal f fd) : FnOk P w K mg base (L2N.CX P w) 10 f fd ["slots", "args"] (sp_walk_signal T) := by
  refine SB.okN F sc_walk_signal len_walk_signal (fun cdv A outer s H vs Q E hr h => ⟨_, (pss_one (ps_ret (SB.met m_Walk_signal hr (by decide) (pe_ix (SB.kIxL (K := K) rfl) (SB.kFld (K := K) rfl (pv 0) rfl) (pe_ix (SB.kIxL (K := K) rfl) (pv 1) pe_int (fun _ _ => rfl)) (fun _ _ => rfl)) (pa_cons (pe_ix (SB.kIxL (K := K) rfl) (pv 1) pe_int (fun _ _ => rfl)) pa_nil)))), ?_⟩)
  obtain ⟨s0, aa, l, w, c, I, X, rfl, hW, ⟨avs, hq, hps⟩, hl, hc, hin, q, e⟩ := h
  obtain ⟨x, y, rfl⟩ : ∃ x y, l = [x, y] := by
    match l, hl with
    | [x, y], _ => exact ⟨x, y, rfl⟩
  obtain ⟨k, ek, rfl⟩ : ∃ k, Rust.slotOf 2 x = some k ∧ c = .walkerRequest k (.throw y) := by
    have h : Rust.callOf 9 [x, y] = (Rust.slotOf 2 x).bind fun s0 => some (.walkerRequest s0 (.throw y)) := rfl
    rw [h] at hc
    cases e1 : Rust.slotOf 2 x with
    | none => rw [e1] at hc; cases hc
    | some k => rw [e1] at hc; exact ⟨k, rfl, (Option.some.inj hc).symm⟩
  obtain ⟨v0, v1, vl, rfl, p0, p1, _⟩ := args_two hps
  obtain ⟨rfl, hk⟩ := slot_inv p0 ek
  obtain ⟨h, eh⟩ : ∃ h, walkerAt w k = some h := by
    have hin : (hasWalker w k && R7244e.Spec.requestFits (.throw y)) = true := hin
    rw [Bool.and_eq_true] at hin
    have hin := hin.1
    unfold hasWalker at hin
    rw [Bool.and_eq_true] at hin
    exact Option.isSome_iff_exists.mp hin.2
  obtain ⟨dxs, lw, le, ws, es, MW, ME, f⟩ := hW
  obtain ⟨v, hv, qs⟩ := f.f_w k hk
  rw [eh] at qs
  obtain ⟨a, cd, R, vr, hK, hm⟩ := id qs
  obtain ⟨w0, st, fi, hWR, hst, e1, e2, e3, e4⟩ := id hK
  obtain ⟨dx, r, wv, rfl, ha, hR, hw, l8, lt⟩ := id hWR
  have er : runCall w (.walkerRequest k (.throw y)) = (R7244e.Spec.storeWalker w k (walkerThrow h y).1, .ret (R7244e.Spec.outcomeList (walkerThrow h y).2)) := by
    show R7244e.Spec.onWalker w k _ = _
    unfold R7244e.Spec.onWalker
    rw [eh]
    rfl
  rw [er] at q
  refine ⟨_, rfl, s0, T.Slots, _, _, _, rfl, f.f_s, T.clSlots, T.nSlots_walks, lkSlots_walks, _, rfl, aa, _, 0, _, rfl, rfl, hq, at0, lw, ws, _, .ref a, rfl, rfl, SqL.of f.f_lw, atI_nat hv, a, _, _, rfl, ha, noWalk_signal, _, rfl, aa, _, 1, v1, rfl, rfl, hq, at1, .ref a, v1, y, a, cd, R, h, I, I, rfl, vr, hK, p1, fun H3 r3 c3 K3 p3 => ?_⟩
  have q3 : SlW T I H3 (.ref a) (some (walkerThrow h y).1) (MW k) := ⟨a, cd, R, vr, K3, hm⟩
  have f3 := f.walk (M := Two a cd) hk (fun b hb => (hm b).mpr hb) hK.offR.1 c3 (fun b hb => q3.alloc ((hm b).mpr hb)) hv q3
  refine q _ rfl H3 I _ _ ⟨dxs, lw, le, ws, es, MW, ME, f3⟩ p3 (fun b hb => ?_)
  rcases hb with hb | hb
  · exact f3.al b hb
  · exact hb.2

end
end SP

/-! ## E9 -/
set_option maxHeartbeats 4000000
namespace SP
open PySem PySem.Spec PyProof.Rows L2 SB
open SS (VC VG R Sz RateOk treeW ratesOf leadsTo)
open R7244e.Spec (reachable recurrentStates hasOneClass canMeet distribution wordProb endState coverage separation unstopped stopProbs survival entry target)
section
variable {P : Program} {w : World} {base : Heap}
variable {K : PySem.W.Frag} {mg : Str → Option Value}

open R7244e.Spec (runCall enumerationAt enumerationNext enumerationThrow collectFrom)
abbrev s_enumeration_next : Stmt := topS 73
theorem sc_enumeration_next : FnScope ["slots", "args"] ["slots", "args"] (defScope s_enumeration_next) := SB.sc_by (by decide +kernel)
theorem ok_enumeration_next (T : TX K mg) (c_value_done : SB.Cal P w K mg base 4 "value_done" (sp_value_done T)) (m_Enumeration_go_on : SB.Met P w K mg base 5 T.Enumeration "go_on" (sp_Enumeration_go_on T))  {f : Addr} {fd : FuncData} (F : Fun K "enumeration_next" "enumeration_next" s_enumeration_next f fd) : FnOk P w K mg base (L2N.CX P w) 6 f fd ["slots", "args"] (sp_enumeration_next T) := by
  refine SB.okN F sc_enumeration_next len_enumeration_next (fun cdv A outer s H vs Q E hr h => ⟨_, (pss_one (ps_ret (SB.cal c_value_done hr (by decide) rfl (pa_cons (SB.met0 m_Enumeration_go_on hr (by decide) (pe_ix (SB.kIxL (K := K) rfl) (SB.kFld (K := K) rfl (pv 0) rfl) (pe_ix (SB.kIxL (K := K) rfl) (pv 1) pe_int (fun _ _ => rfl)) (fun _ _ => rfl))) pa_nil)))), ?_⟩)
  obtain ⟨s0, aa, l, w, c, I, X, rfl, hW, ⟨avs, hq, hps⟩, hl, hc, hin, q, e⟩ := h
  obtain ⟨x, y, rfl⟩ : ∃ x y, l = [x, y] := by
    match l, hl with
    | [x, y], _ => exact ⟨x, y, rfl⟩
  obtain ⟨k, ek, rfl⟩ : ∃ k, Rust.slotOf 2 x = some k ∧ c = .enumerationRequest k (.next y) := by
    have h : Rust.callOf 13 [x, y] = (Rust.slotOf 2 x).bind fun k => some (.enumerationRequest k (.next y)) := rfl
    rw [h] at hc
    cases e1 : Rust.slotOf 2 x with
    | none => rw [e1] at hc; cases hc
    | some k => rw [e1] at hc; exact ⟨k, rfl, (Option.some.inj hc).symm⟩
  obtain ⟨v0, v1, vl, rfl, p0, p1, _⟩ := args_two hps
  obtain ⟨rfl, hk⟩ := slot_inv p0 ek
  obtain ⟨h, eh⟩ : ∃ h, enumerationAt w k = some h := by
    cases eh : enumerationAt w k with
    | some h => exact ⟨h, rfl⟩
    | none =>
      have hf : R7244e.Spec.hasEnumeration w k = false := by
        unfold R7244e.Spec.hasEnumeration
        rw [eh]
        exact Bool.and_false _
      unfold R7244e.Spec.input at hin
      simp only [hf, Bool.false_and] at hin
      cases hin
  obtain ⟨dxs, lw, le, ws, es, MW, ME, f⟩ := hW
  obtain ⟨v, hv, qs⟩ := f.f_e k hk
  rw [eh] at qs
  obtain ⟨a, cd, rr, R, vr, hK, hm⟩ := id qs
  obtain ⟨fi, ⟨dx, r, rfl, ha, _⟩, _⟩ := id hK
  have er : runCall w (.enumerationRequest k (.next y)) = (R7244e.Spec.storeEnumeration w k (enumerationNext h).1, .ret (R7244e.Spec.outcomeValue (.next y) (enumerationNext h).2)) := by
    show R7244e.Spec.onEnumeration w k _ = _
    unfold R7244e.Spec.onEnumeration
    rw [eh]
    rfl
  rw [er] at q
  refine ⟨_, rfl, s0, T.Slots, _, _, _, rfl, f.f_s, T.clSlots, T.nSlots_enumerations, lkSlots_enumerations, _, rfl, aa, _, 0, _, rfl, rfl, hq, at0, le, es, _, .ref a, rfl, rfl, SqL.of f.f_le, atI_nat hv, a, _, _, rfl, ha, noEnumeration_go_on, .ref a, a, cd, rr, R, h, I, rfl, vr, hK, fun H3 tp o u fl c3 K3 t3 eo po => ⟨tp, o, u, fl, FreshA H H3, rfl, t3, po, fun b hb => hb.2, fun H5 r5 s5 p5 => ?_⟩⟩
  have q3 : SlE T I H3 (.ref a) (some (enumerationNext h).1) (ME k) := ⟨a, cd, rr, R, vr, K3, hm⟩
  have f3 := f.enum (M := Two a rr) hk (fun b hb => (hm b).mpr (by rcases hb with hb | hb <;> simp [hb])) hK.offR.1 c3 (fun b hb => q3.alloc ((hm b).mpr (by rcases hb with hb | hb <;> simp [hb]))) hv (fun b hb => .inl hb) q3
  rw [eo] at q
  exact q _ rfl H5 I _ _ (WoAt.same s5 f3) p5 (al_new s5 (fun b hb => hb.2))
abbrev s_enumeration_collect : Stmt := topS 76
theorem sc_enumeration_collect : FnScope ["slots", "args"] ["slots", "args"] (defScope s_enumeration_collect) := SB.sc_by (by decide +kernel)
theorem ok_enumeration_collect (T : TX K mg) (m_Enumeration_collect : SB.Met P w K mg base 5 T.Enumeration "collect" (sp_Enumeration_collect T))  {f : Addr} {fd : FuncData} (F : Fun K "enumeration_collect" "enumeration_collect" s_enumeration_collect f fd) : FnOk P w K mg base (L2N.CX P w) 6 f fd ["slots", "args"] (sp_enumeration_collect T) := by
  refine SB.okN F sc_enumeration_collect len_enumeration_collect (fun cdv A outer s H vs Q E hr h => ⟨_, (pss_one (ps_ret (SB.met0 m_Enumeration_collect hr (by decide) (pe_ix (SB.kIxL (K := K) rfl) (SB.kFld (K := K) rfl (pv 0) rfl) (pe_ix (SB.kIxL (K := K) rfl) (pv 1) pe_int (fun _ _ => rfl)) (fun _ _ => rfl))))), ?_⟩)
  obtain ⟨s0, aa, l, w, c, I, X, rfl, hW, ⟨avs, hq, hps⟩, hl, hc, hin, q, e⟩ := h
  obtain ⟨x, rfl⟩ : ∃ x, l = [x] := by
    match l, hl with
    | [x], _ => exact ⟨x, rfl⟩
  obtain ⟨k, ek, rfl⟩ : ∃ k, Rust.slotOf 2 x = some k ∧ c = .collect k := by
    have h : Rust.callOf 16 [x] = (Rust.slotOf 2 x).bind fun k => some (.collect k) := rfl
    rw [h] at hc
    cases e1 : Rust.slotOf 2 x with
    | none => rw [e1] at hc; cases hc
    | some k => rw [e1] at hc; exact ⟨k, rfl, (Option.some.inj hc).symm⟩
  obtain ⟨v0, vl, rfl, p0, _⟩ := args_n1 hps
  obtain ⟨rfl, hk⟩ := slot_inv p0 ek
  obtain ⟨h, eh⟩ : ∃ h, enumerationAt w k = some h := by
    cases eh : enumerationAt w k with
    | some h => exact ⟨h, rfl⟩
    | none =>
      have hf : R7244e.Spec.hasEnumeration w k = false := by
        unfold R7244e.Spec.hasEnumeration
        rw [eh]
        exact Bool.and_false _
      unfold R7244e.Spec.input at hin
      simp only [hf, Bool.false_and] at hin
      cases hin
  obtain ⟨dxs, lw, le, ws, es, MW, ME, f⟩ := hW
  obtain ⟨v, hv, qs⟩ := f.f_e k hk
  rw [eh] at qs
  obtain ⟨a, cd, rr, R, vr, hK, hm⟩ := id qs
  obtain ⟨fi, ⟨dx, r, rfl, ha, _⟩, _⟩ := id hK
  have er : runCall w (.collect k) = (R7244e.Spec.storeEnumeration w k (collectFrom 40 h).1, .ret (.arr (collectFrom 40 h).2)) := by
    show R7244e.Spec.onEnumeration w k _ = _
    unfold R7244e.Spec.onEnumeration
    rw [eh]
    rfl
  rw [er] at q
  refine ⟨_, rfl, s0, T.Slots, _, _, _, rfl, f.f_s, T.clSlots, T.nSlots_enumerations, lkSlots_enumerations, _, rfl, aa, _, 0, _, rfl, rfl, hq, at0, le, es, _, .ref a, rfl, rfl, SqL.of f.f_le, atI_nat hv, a, _, _, rfl, ha, noEnumeration_collect, .ref a, a, cd, rr, R, h, I, rfl, vr, hK, f.al, fun H3 r3 c3 K3 p3 => ?_⟩
  have q3 : SlE T I H3 (.ref a) (some (collectFrom 40 h).1) (ME k) := ⟨a, cd, rr, R, vr, K3, hm⟩
  have f3 := f.enum (M := Two a rr) hk (fun b hb => (hm b).mpr (by rcases hb with hb | hb <;> simp [hb])) hK.offR.1 c3 (fun b hb => q3.alloc ((hm b).mpr (by rcases hb with hb | hb <;> simp [hb]))) hv (fun b hb => .inl hb) q3
  exact q _ rfl H3 I _ _ f3 p3 (fun b hb => hb.2)

end
end SP

/-! ## E10 -/
set_option maxHeartbeats 4000000
namespace SP
open PySem PySem.Spec PyProof.Rows L2 SB
open SS (VC VG R Sz RateOk treeW ratesOf leadsTo)
open R7244e.Spec (reachable recurrentStates hasOneClass canMeet distribution wordProb endState coverage separation unstopped stopProbs survival entry target)
section
variable {P : Program} {w : World} {base : Heap}
variable {K : PySem.W.Frag} {mg : Str → Option Value}

open R7244e.Spec (runCall enumerationAt enumerationNext enumerationThrow collectFrom)
abbrev s_enumeration_signal : Stmt := topS 74
theorem sc_enumeration_signal : FnScope ["slots", "args"] ["slots", "args"] (defScope s_enumeration_signal) := SB.sc_by (by decide +kernel)
theorem ok_enumeration_signal (T : TX K mg) (m_Enumeration_signal : SB.Met P w K mg base 5 T.Enumeration "signal" (sp_Enumeration_signal T))  {f : Addr} {fd : FuncData} (F : Fun K "enumeration_signal" "enumeration_signal" s_enumeration_signal f fd) : FnOk P w K mg base (L2N.CX P w) 6 f fd ["slots", "args"] (sp_enumeration_signal T) := by
  refine SB.okN F sc_enumeration_signal len_enumeration_signal (fun cdv A outer s H vs Q E hr h => ⟨_, (pss_one (ps_ret (SB.met m_Enumeration_signal hr (by decide) (pe_ix (SB.kIxL (K := K) rfl) (SB.kFld (K := K) rfl (pv 0) rfl) (pe_ix (SB.kIxL (K := K) rfl) (pv 1) pe_int (fun _ _ => rfl)) (fun _ _ => rfl)) (pa_cons (pe_ix (SB.kIxL (K := K) rfl) (pv 1) pe_int (fun _ _ => rfl)) pa_nil)))), ?_⟩)
  obtain ⟨s0, aa, l, w, c, I, X, rfl, hW, ⟨avs, hq, hps⟩, hl, hc, hin, q, e⟩ := h
  obtain ⟨x, y, rfl⟩ : ∃ x y, l = [x, y] := by
    match l, hl with
    | [x, y], _ => exact ⟨x, y, rfl⟩
  obtain ⟨k, ek, rfl⟩ : ∃ k, Rust.slotOf 2 x = some k ∧ c = .enumerationRequest k (.throw y) := by
    have h : Rust.callOf 14 [x, y] = (Rust.slotOf 2 x).bind fun k => some (.enumerationRequest k (.throw y)) := rfl
    rw [h] at hc
    cases e1 : Rust.slotOf 2 x with
    | none => rw [e1] at hc; cases hc
    | some k => rw [e1] at hc; exact ⟨k, rfl, (Option.some.inj hc).symm⟩
  obtain ⟨v0, v1, vl, rfl, p0, p1, _⟩ := args_two hps
  obtain ⟨rfl, hk⟩ := slot_inv p0 ek
  obtain ⟨h, eh⟩ : ∃ h, enumerationAt w k = some h := by
    cases eh : enumerationAt w k with
    | some h => exact ⟨h, rfl⟩
    | none =>
      have hf : R7244e.Spec.hasEnumeration w k = false := by
        unfold R7244e.Spec.hasEnumeration
        rw [eh]
        exact Bool.and_false _
      unfold R7244e.Spec.input at hin
      simp only [hf, Bool.false_and] at hin
      cases hin
  obtain ⟨dxs, lw, le, ws, es, MW, ME, f⟩ := hW
  obtain ⟨v, hv, qs⟩ := f.f_e k hk
  rw [eh] at qs
  obtain ⟨a, cd, rr, R, vr, hK, hm⟩ := id qs
  obtain ⟨fi, ⟨dx, r, rfl, ha, _⟩, _⟩ := id hK
  have er : runCall w (.enumerationRequest k (.throw y)) = (R7244e.Spec.storeEnumeration w k (enumerationThrow h y).1, .ret (R7244e.Spec.outcomeList (enumerationThrow h y).2)) := by
    show R7244e.Spec.onEnumeration w k _ = _
    unfold R7244e.Spec.onEnumeration
    rw [eh]
    rfl
  rw [er] at q
  have nI : ¬ I rr := by
    obtain ⟨_, ⟨_, _, _, _, _, _, nI, _⟩, _⟩ := hK
    exact nI
  refine ⟨_, rfl, s0, T.Slots, _, _, _, rfl, f.f_s, T.clSlots, T.nSlots_enumerations, lkSlots_enumerations, _, rfl, aa, _, 0, _, rfl, rfl, hq, at0, le, es, _, .ref a, rfl, rfl, SqL.of f.f_le, atI_nat hv, a, _, _, rfl, ha, noEnumeration_signal, _, rfl, aa, _, 1, v1, rfl, rfl, hq, at1, .ref a, v1, y, a, cd, rr, R, h, I, I, rfl, vr, hK, f.al, p1, nI, fun H3 r3 rr' c3 hrr K3 ⟨la, its, lo, erl, hla, nla, h3l, eol, pls⟩ hA => ?_⟩
  have p3 : PlAt T (New I H H3) H3 true r3 (R7244e.Spec.outcomeList (enumerationThrow h y).2) := by
    rw [erl, eol]
    exact .arr (.inr ⟨hla, by rw [h3l]; simp⟩) (SqL.of h3l) (pls.mono fun b hb => hb.1)
  have q3 : SlE T I H3 (.ref a) (some (enumerationThrow h y).1) (fun b => b = a ∨ b = cd ∨ b = rr') := ⟨a, cd, rr', R, vr, K3, fun b => Iff.rfl⟩
  have f3 := f.enum (M := Two a rr) hk (fun b hb => (hm b).mpr (by rcases hb with hb | hb <;> simp [hb])) hK.offR.1 c3 hA hv (fun b hb => by
    rcases hb with hb | hb | hb
    · exact .inl ((hm b).mpr (.inl hb))
    · exact .inl ((hm b).mpr (.inr (.inl hb)))
    · rcases hrr with z | z
      · exact .inl ((hm b).mpr (.inr (.inr (hb.trans z))))
      · exact .inr (hb ▸ z)) q3
  refine q _ rfl H3 I _ _ f3 p3 (fun b hb => ?_)
  rcases hb with hb | hb
  · intro z
    by_cases m : Two a rr b
    · exact hA b m z
    · cases e1 : H b with
      | none => exact f.al b hb e1
      | some o => rw [c3 _ _ e1 m] at z; cases z
  · exact hb.2

end
end SP

/-! ## E11 -/
set_option maxHeartbeats 4000000
namespace SP
open PySem PySem.Spec PyProof.Rows L2 SB
open SS (VC VG R Sz RateOk treeW ratesOf leadsTo)
open R7244e.Spec (reachable recurrentStates hasOneClass canMeet distribution wordProb endState coverage separation unstopped stopProbs survival entry target)
section
variable {P : Program} {w : World} {base : Heap}
variable {K : PySem.W.Frag} {mg : Str → Option Value}

open R7244e.Spec (runCall enumerationAt enumerationNext enumerationThrow collectFrom)
/-- the enumeration of a filled slot -/
theorem enum_some {w : SWorld} {k : Nat} (h : R7244e.Spec.hasEnumeration w k = true) : ∃ h, enumerationAt w k = some h := by
  unfold R7244e.Spec.hasEnumeration at h
  rw [Bool.and_eq_true] at h
  exact Option.isSome_iff_exists.mp h.2
abbrev s_enumeration_finish : Stmt := topS 75
theorem sc_enumeration_finish : FnScope ["slots", "args"] ["slots", "args"] (defScope s_enumeration_finish) := SB.sc_by (by decide +kernel)
theorem ok_enumeration_finish (T : TX K mg) (c_value_done : SB.Cal P w K mg base 4 "value_done" (sp_value_done T)) (m_Enumeration_finish : SB.Met P w K mg base 1 T.Enumeration "finish" (sp_Enumeration_finish T))  {f : Addr} {fd : FuncData} (F : Fun K "enumeration_finish" "enumeration_finish" s_enumeration_finish f fd) : FnOk P w K mg base (L2N.CX P w) 5 f fd ["slots", "args"] (sp_enumeration_finish T) := by
  refine SB.okN F sc_enumeration_finish len_enumeration_finish (fun cdv A outer s H vs Q E hr h => ⟨_, (pss_one (ps_ret (SB.cal c_value_done hr (by decide) rfl (pa_cons (SB.met m_Enumeration_finish hr (by decide) (pe_ix (SB.kIxL (K := K) rfl) (SB.kFld (K := K) rfl (pv 0) rfl) (pe_ix (SB.kIxL (K := K) rfl) (pv 1) pe_int (fun _ _ => rfl)) (fun _ _ => rfl)) (pa_cons (pe_ix (SB.kIxL (K := K) rfl) (pv 1) pe_int (fun _ _ => rfl)) pa_nil)) pa_nil)))), ?_⟩)
  obtain ⟨s0, aa, l, w, c, I, X, rfl, hW, ⟨avs, hq, hps⟩, hl, hc, hin, q, e⟩ := h
  obtain ⟨x, y, rfl⟩ : ∃ x y, l = [x, y] := by
    match l, hl with
    | [x, y], _ => exact ⟨x, y, rfl⟩
  obtain ⟨k, ek, rfl⟩ : ∃ k, Rust.slotOf 2 x = some k ∧ c = .enumerationRequest k (.ret y) := by
    have h : Rust.callOf 15 [x, y] = (Rust.slotOf 2 x).bind fun k => some (.enumerationRequest k (.ret y)) := rfl
    rw [h] at hc
    cases e1 : Rust.slotOf 2 x with
    | none => rw [e1] at hc; cases hc
    | some k => rw [e1] at hc; exact ⟨k, rfl, (Option.some.inj hc).symm⟩
  obtain ⟨v0, v1, vl, rfl, p0, p1, _⟩ := args_two hps
  obtain ⟨rfl, hk⟩ := slot_inv p0 ek
  obtain ⟨h, eh⟩ : ∃ h, enumerationAt w k = some h := enum_some (Bool.and_eq_true_iff.mp (show (R7244e.Spec.hasEnumeration w k && R7244e.Spec.requestFits (.ret y)) = true from hin)).1
  obtain ⟨dxs, lw, le, ws, es, MW, ME, f⟩ := hW
  obtain ⟨v, hv, qs⟩ := f.f_e k hk
  rw [eh] at qs
  obtain ⟨a, cd, rr, R, vr, hK, hm⟩ := id qs
  obtain ⟨fi, ⟨dx, r, rfl, ha, _⟩, _⟩ := id hK
  have er : runCall w (.enumerationRequest k (.ret y)) = (R7244e.Spec.storeEnumeration w k { h with stage := .finished }, .ret (R7244e.Spec.iteratorResult y true)) := by
    show R7244e.Spec.onEnumeration w k _ = _
    unfold R7244e.Spec.onEnumeration
    rw [eh]
    rfl
  rw [er] at q
  refine ⟨_, rfl, s0, T.Slots, _, _, _, rfl, f.f_s, T.clSlots, T.nSlots_enumerations, lkSlots_enumerations, _, rfl, aa, _, 0, _, rfl, rfl, hq, at0, le, es, _, .ref a, rfl, rfl, SqL.of f.f_le, atI_nat hv, a, _, _, rfl, ha, noEnumeration_finish, _, rfl, aa, _, 1, v1, rfl, rfl, hq, at1, .ref a, v1, a, cd, rr, R, h, I, rfl, hK, fun H3 tp c3 K3 t3 => ⟨tp, v1, y, true, I, rfl, t3, ?_, ?_, fun H5 r5 s5 p5 => ?_⟩⟩
  all_goals
    have q3 : SlE T I H3 (.ref a) (some { h with stage := .finished }) (ME k) := ⟨a, cd, rr, R, vr, K3, hm⟩
    have f3 := f.enum (M := (· = a)) hk (fun b hb => (hm b).mpr (.inl hb)) (offIR ha T.neER T.neED) c3 (fun b hb => q3.alloc ((hm b).mpr (.inl hb))) hv (fun b hb => .inl hb) q3
    have al3 : Al I H3 := fun b hb z => by
      by_cases m : b = a
      · exact q3.alloc ((hm a).mpr (.inl rfl)) (m ▸ z)
      · cases e1 : H b with
        | none => exact f.al b hb e1
        | some o => rw [c3 _ _ e1 m] at z; cases z
  · exact (p1.off (offIP ha (show 5 ≠ 1 by decide)) c3).keep (keeps_same (Same.refl _) fun _ i => i) (fun _ => rfl)
  · exact al3
  · exact q _ rfl H5 I _ _ (WoAt.same s5 f3) p5 (al_new s5 al3)
abbrev s_enumeration_close : Stmt := topS 78
theorem sc_enumeration_close : FnScope ["slots", "args"] ["slots", "args"] (defScope s_enumeration_close) := SB.sc_by (by decide +kernel)
theorem ok_enumeration_close (T : TX K mg) (m_Enumeration_finish : SB.Met P w K mg base 1 T.Enumeration "finish" (sp_Enumeration_finish T)) (m_Nothing : SB.Mak P w K mg base 1 "Nothing" T.Nothing (sp_Nothing___init__ T))  {f : Addr} {fd : FuncData} (F : Fun K "enumeration_close" "enumeration_close" s_enumeration_close f fd) : FnOk P w K mg base (L2N.CX P w) 3 f fd ["slots", "args"] (sp_enumeration_close T) := by
  refine SB.okN F sc_enumeration_close len_enumeration_close (fun cdv A outer s H vs Q E hr h => ⟨_, (pss_cons (ps_expr (SB.met m_Enumeration_finish hr (by decide) (pe_ix (SB.kIxL (K := K) rfl) (SB.kFld (K := K) rfl (pv 0) rfl) (pe_ix (SB.kIxL (K := K) rfl) (pv 1) pe_int (fun _ _ => rfl)) (fun _ _ => rfl)) (pa_cons pe_non pa_nil))) (pss_one (ps_ret (SB.mak0 m_Nothing hr (by decide) rfl)))), ?_⟩)
  obtain ⟨s0, aa, l, w, c, I, X, rfl, hW, ⟨avs, hq, hps⟩, hl, hc, hin, q, e⟩ := h
  obtain ⟨x, rfl⟩ : ∃ x, l = [x] := by
    match l, hl with
    | [x], _ => exact ⟨x, rfl⟩
  obtain ⟨k, ek, rfl⟩ : ∃ k, Rust.slotOf 2 x = some k ∧ c = .enumerationDispose k := by
    have h : Rust.callOf 18 [x] = (Rust.slotOf 2 x).bind fun k => some (.enumerationDispose k) := rfl
    rw [h] at hc
    cases e1 : Rust.slotOf 2 x with
    | none => rw [e1] at hc; cases hc
    | some k => rw [e1] at hc; exact ⟨k, rfl, (Option.some.inj hc).symm⟩
  obtain ⟨v0, vl, rfl, p0, _⟩ := args_n1 hps
  obtain ⟨rfl, hk⟩ := slot_inv p0 ek
  obtain ⟨h, eh⟩ : ∃ h, enumerationAt w k = some h := enum_some hin
  obtain ⟨dxs, lw, le, ws, es, MW, ME, f⟩ := hW
  obtain ⟨v, hv, qs⟩ := f.f_e k hk
  rw [eh] at qs
  obtain ⟨a, cd, rr, R, vr, hK, hm⟩ := id qs
  obtain ⟨fi, ⟨dx, r, rfl, ha, _⟩, _⟩ := id hK
  have er : runCall w (.enumerationDispose k) = (R7244e.Spec.storeEnumeration w k { h with stage := .finished }, .ret .undef) := by
    show R7244e.Spec.onEnumeration w k _ = _
    unfold R7244e.Spec.onEnumeration
    rw [eh]
    rfl
  rw [er] at q
  refine ⟨_, rfl, s0, T.Slots, _, _, _, rfl, f.f_s, T.clSlots, T.nSlots_enumerations, lkSlots_enumerations, _, rfl, aa, _, 0, _, rfl, rfl, hq, at0, le, es, _, .ref a, rfl, rfl, SqL.of f.f_le, atI_nat hv, a, _, _, rfl, ha, noEnumeration_finish, .ref a, .non, a, cd, rr, R, h, I, rfl, hK, fun H3 tp c3 K3 t3 => ?_⟩
  have q3 : SlE T I H3 (.ref a) (some { h with stage := .finished }) (ME k) := ⟨a, cd, rr, R, vr, K3, hm⟩
  have f3 := f.enum (M := (· = a)) hk (fun b hb => (hm b).mpr (.inl hb)) (offIR ha T.neER T.neED) c3 (fun b hb => q3.alloc ((hm b).mpr (.inl hb))) hv (fun b hb => .inl hb) q3
  intro x dx2 hx hdx nd
  refine ⟨x, dx2, rfl, upd_same, fun H2 en c2 h2 => ⟨rfl, ?_⟩⟩
  have s2 := mk_same hx hdx c2
  exact q .undef rfl H2 I (fun _ => False) _ (WoAt.same s2 f3) (.undef h2) (fun _ h => h.elim)

end
end SP

/-! ## E12 -/
set_option maxHeartbeats 4000000
namespace SP
open PySem PySem.Spec PyProof.Rows L2 SB
open SS (VC VG R Sz RateOk treeW ratesOf leadsTo)
open R7244e.Spec (reachable recurrentStates hasOneClass canMeet distribution wordProb endState coverage separation unstopped stopProbs survival entry target)
section
variable {P : Program} {w : World} {base : Heap}
variable {K : PySem.W.Frag} {mg : Str → Option Value}

open R7244e.Spec (runCall enumerationAt enumerationNext enumerationThrow runBurst requestsOf requestOfUnit outcomeList elements)
/-- the arguments' list is no enumeration's own -/
theorem args_off {T : TX K mg} {I : Addr → Prop} {H H' : Hp} {a cd rr aa : Addr} {R : Ru} {h : Enum} {k : Nat} {vl : List V} (q : EnAt T I H (.ref a) a cd rr R h) (c : Chg (Two a rr) H H') (hq : SqL K H aa (intT k :: vl)) : SqL K H' aa (intT k :: vl) := by
  obtain ⟨fi, ⟨dx, r, _, ha, hR, ⟨ws, w1, w2⟩, _⟩, _⟩ := q
  generalize h.remaining = rem at w2
  rcases hq with (z | ⟨o, z⟩) | z
  · refine .inl (.inl (c _ _ z fun m => ?_))
    rcases m with m | m
    · rw [m, ha] at z; cases z
    · rw [m, w1] at z
      injection z with z
      injection z with z
      subst z
      cases w2 with
      | cons hw _ =>
        obtain ⟨_, e, _⟩ := hw
        cases e
  · refine .inl (.inr ⟨o, c _ _ z fun m => ?_⟩)
    rcases m with m | m
    · rw [m, ha] at z; cases z
    · rw [m, w1] at z; cases z
  · exact .inr z
theorem EnAt.two {T : TX K mg} {I : Addr → Prop} {H : Hp} {a cd rr : Addr} {R : Ru} {h : Enum} (q : EnAt T I H (.ref a) a cd rr R h) : ∀ b, Two a rr b → H b ≠ none := by
  obtain ⟨fi, ⟨dx, r, _, ha, hR, ⟨ws, w1, w2⟩, _⟩, _⟩ := q
  rintro b (rfl | rfl)
  · rw [ha]; simp
  · rw [w1]; simp
theorem bck_of {M : Addr → Prop} {H H' : Hp} (c : Chg M H H') (hA : ∀ b, M b → H' b ≠ none) : ∀ b, H' b = none → H b = none := by
  intro b z
  by_cases m : M b
  · exact absurd z (hA b m)
  · cases e : H b with
    | none => rfl
    | some o => rw [c _ _ e m] at z; cases z
theorem burst_step {j : Nat} {h : Enum} {a : R7244e.Spec.Request} {r : List R7244e.Spec.Request} : runBurst j h (a :: r) = ((runBurst (j + 1) (R7244e.Spec.enumerationRequest h a).1 r).1, .arr (R7244e.Spec.nat j :: elements (outcomeList (R7244e.Spec.enumerationRequest h a).2)) :: (runBurst (j + 1) (R7244e.Spec.enumerationRequest h a).1 r).2) := rfl
theorem out_len {o : R7244e.Spec.Outcome} {l : List Plain} (h : outcomeList o = .arr l) : l.length ≤ 3 := by
  cases o <;> cases h <;> simp
/-- a place of its own list touches no value that keeps off it -/
theorem EnAt.offJ {T : TX K mg} {I J : Addr → Prop} {H : Hp} {a cd rr : Addr} {R : Ru} {h : Enum} (q : EnAt T I H (.ref a) a cd rr R h) (n : ∀ b, J b → b ≠ rr) : OffP (Two a rr) J H := by
  have o := q.offR.2
  refine ⟨⟨o.tup, o.ftup, ?_⟩, o.one⟩
  obtain ⟨fi, ⟨dx, r, _, ha, _⟩, _⟩ := q
  rintro b xs (rfl | rfl) i z
  · rw [ha] at z; cases z
  · exact n b i rfl
theorem out_step {o : R7244e.Spec.Outcome} {u : Plain} {f : Bool} (h : o = .step u f) : outcomeList o = .arr [R7244e.Spec.text "result", u, .bool f] := by rw [h]; rfl
abbrev s_enumeration_together : Stmt := topS 77
theorem sc_enumeration_together : FnScope ["slots", "args", "own", "told", "number", "sign", "row"] ["slots", "args"] (defScope s_enumeration_together) := SB.sc_by (by decide +kernel)
theorem ok_enumeration_together (T : TX K mg) (m_Enumeration_finish : SB.Met P w K mg base 1 T.Enumeration "finish" (sp_Enumeration_finish T)) (m_Enumeration_go_on : SB.Met P w K mg base 5 T.Enumeration "go_on" (sp_Enumeration_go_on T)) (m_Enumeration_signal : SB.Met P w K mg base 5 T.Enumeration "signal" (sp_Enumeration_signal T))  {f : Addr} {fd : FuncData} (F : Fun K "enumeration_together" "enumeration_together" s_enumeration_together f fd) : FnOk P w K mg base (L2N.CX P w) 6 f fd ["slots", "args"] (sp_enumeration_together T) := by
  refine SB.okN F sc_enumeration_together len_enumeration_together (fun cdv A outer s H vs Q E hr h => ⟨_, (pss_cons (ps_set (i := 2) sc_enumeration_together.nd rfl (by first | exact Or.inl rfl | exact Or.inr rfl) (pe_ix (SB.kIxL (K := K) rfl) (SB.kFld (K := K) rfl (pv 0) rfl) (pe_ix (SB.kIxL (K := K) rfl) (pv 1) pe_int (fun _ _ => rfl)) (fun _ _ => rfl))) (pss_cons (ps_set (i := 3) sc_enumeration_together.nd rfl (by first | exact Or.inl rfl | exact Or.inr rfl) (pe_lst pa_nil)) (pss_cons (ps_for (by first | exact PassesOwn.never | exact passes_of rfl) rfl (SB.pi_enumT (by rfl) T.b_enumerate (pa_cons (SB.kFld (K := K) rfl (pe_ix (SB.kIxL (K := K) rfl) (pv 1) pe_int (fun _ _ => rfl)) rfl) pa_nil)) (pg_tup (by rfl) (pgs_cons (pg_name (i := 4) sc_enumeration_together.nd rfl (by first | exact Or.inl rfl | exact Or.inr rfl)) (pgs_cons (pg_name (i := 5) sc_enumeration_together.nd rfl (by first | exact Or.inl rfl | exact Or.inr rfl)) pgs_nil))) (pss_cons (ps_if (pt_cmpR op_eq (pv 5) pe_int (nomark _)) (pss_one (ps_set (i := 6) sc_enumeration_together.nd rfl (by first | exact Or.inl rfl | exact Or.inr rfl) (pe_op op_cat (pe_lst (pa_cons pe_str pa_nil)) (pe_callTy (SB.kListOf (K := K) rfl) (by rfl) T.b_list (by decide +kernel) (pa_cons (SB.met0 m_Enumeration_go_on hr (by decide) (pv 2)) pa_nil))))) (pss_one (ps_if (pt_cmpR op_eq (pv 5) pe_int (nomark _)) (pss_one (ps_set (i := 6) sc_enumeration_together.nd rfl (by first | exact Or.inl rfl | exact Or.inr rfl) (SB.met m_Enumeration_signal hr (by decide) (pv 2) (pa_cons (pe_ix (SB.kIxL (K := K) rfl) (pv 1) pe_int (fun _ _ => rfl)) pa_nil)))) (pss_one (ps_set (i := 6) sc_enumeration_together.nd rfl (by first | exact Or.inl rfl | exact Or.inr rfl) (pe_op op_cat (pe_lst (pa_cons pe_str pa_nil)) (pe_callTy (SB.kListOf (K := K) rfl) (by rfl) T.b_list (by decide +kernel) (pa_cons (SB.met m_Enumeration_finish hr (by decide) (pv 2) (pa_cons (pe_ix (SB.kIxL (K := K) rfl) (pv 1) pe_int (fun _ _ => rfl)) pa_nil)) pa_nil)))))))) (pss_one (ps_expr (pe_bm PySem.F.plainAttrs_list PySem.F.slot_list_append PySem.F.type_list_append mt_append (pv 3) (pa_cons (pe_op op_cat (pe_lst (pa_cons (pv 4) pa_nil)) (pv 6)) pa_nil)))))) (pss_one (ps_ret (pv 3)))))), ?_⟩)
  obtain ⟨s0, aa, l, w, c, I, X, rfl, hW, ⟨avs, hq, hps⟩, hl, hc, hin, q, e⟩ := h
  obtain ⟨x, y, z, rfl⟩ : ∃ x y z, l = [x, y, z] := by
    match l, hl with
    | [x, y, z], _ => exact ⟨x, y, z, rfl⟩
  obtain ⟨k, ek, rfl⟩ : ∃ k, Rust.slotOf 2 x = some k ∧ c = .burst k y z := by
    have h : Rust.callOf 17 [x, y, z] = (Rust.slotOf 2 x).bind fun k => some (.burst k y z) := rfl
    rw [h] at hc
    cases e1 : Rust.slotOf 2 x with
    | none => rw [e1] at hc; cases hc
    | some k => rw [e1] at hc; exact ⟨k, rfl, (Option.some.inj hc).symm⟩
  obtain ⟨v0, v1, v2, vl, rfl, p0, p1, p2, _⟩ := args_three hps
  obtain ⟨rfl, hk⟩ := slot_inv p0 ek
  have hin : (((R7244e.Spec.hasEnumeration w k && R7244e.Spec.isRequests y) && R7244e.Spec.isPrimitive z) && R7244e.Spec.fits [z]) = true := hin
  simp only [Bool.and_eq_true] at hin
  obtain ⟨⟨⟨hin1, hin2⟩, _⟩, _⟩ := hin
  obtain ⟨h, eh⟩ : ∃ h, enumerationAt w k = some h := enum_some hin1
  obtain ⟨u, rfl⟩ : ∃ u, y = .str u := by
    cases y <;> first | exact ⟨_, rfl⟩ | cases hin2
  have hu : (1 ≤ u.length ∧ u.length ≤ 8) ∧ ∀ c ∈ u, (c.toNat = 110 ∨ c.toNat = 116) ∨ c.toNat = 114 := by
    have hin2 : (decide (1 ≤ u.length ∧ u.length ≤ 8) && u.all fun c => c.toNat == 110 || c.toNat == 116 || c.toNat == 114) = true := hin2
    simpa using hin2
  obtain ⟨dxs, lw, le, ws, es, MW, ME, f⟩ := hW
  have hk3 := hk
  obtain ⟨v, hv, qs⟩ := f.f_e k hk
  rw [eh] at qs
  obtain ⟨a, cd, rr, R, vr, hK, hm⟩ := id qs
  obtain ⟨fi, ⟨dx, r, rfl, ha, hR, ⟨wds, w1, _⟩, nI, _⟩, _⟩ := id hK
  have er : runCall w (.burst k (.str u) z) = (R7244e.Spec.storeEnumeration w k (runBurst 0 h (u.map (requestOfUnit z))).1, .ret (.arr (runBurst 0 h (u.map (requestOfUnit z))).2)) := by
    show R7244e.Spec.onEnumeration w k _ = _
    unfold R7244e.Spec.onEnumeration
    rw [eh]
    rfl
  rw [er] at q
  obtain ⟨ta, tdx, te, rfl, hta, hte⟩ : ∃ ta tdx te, v1 = .ref ta ∧ H ta = some (.ins T.Text tdx [("octets", .ref te)]) ∧ SqT K H te (u.map unitT) := by
    cases p1 with
    | str h1 h2 => exact ⟨_, _, _, rfl, h1, h2⟩
    | pstr s z c => cases z
  refine ⟨_, rfl, s0, T.Slots, _, _, _, rfl, f.f_s, T.clSlots, T.nSlots_enumerations, lkSlots_enumerations, _, rfl, aa, _, 0, _, rfl, rfl, hq, at0, le, es, _, .ref a, rfl, rfl, SqL.of f.f_le, atI_nat hv, le_line (by show 0 ≤ _; decide), fun D hD => ?_⟩
  have c1 : Chg (Two a rr) H (upd H D (.lst [])) := Chg.of_same (same_upd hD)
  have hq1 := seq_same (same_upd (o := .lst []) hD) hq
  have nDa : D ≠ a := fun z => by rw [z, ha] at hD; cases hD
  have nDr : D ≠ rr := fun z => by rw [z, w1] at hD; cases hD
  have hta1 := same_upd (o := .lst []) hD _ _ hta
  have hte1 := same_tup (same_upd (o := .lst []) hD) hte
  refine ⟨_, rfl, aa, _, 1, _, rfl, rfl, hq1, at1, ta, T.Text, _, _, _, rfl, hta1, T.clText, T.nText_octets, lkText_octets, te, _, rfl, hte1, ?_⟩
  refine for_it (walk_enumT (K := K) (a := te) (xs := u.map unitT)) (fun j σ H' => ∃ (hk : Enum) (rk : Addr) (L : List Plain) (ms : List V) (o4 o5 o6 : Option V), σ = [some (.ref s0), some (.ref aa), some (.ref a), some (.ref D), o4, o5, o6] ∧ Chg (Two a rr) H H' ∧ (∀ b, H' b = none → H b = none) ∧ EnAt T I H' (.ref a) a cd rk R hk ∧ (rk = rr ∨ H rk = none) ∧ H' D = some (.lst ms) ∧ D ≠ rk ∧
    PlsAt T (fun b => (I b ∨ FreshA H H' b) ∧ b ≠ D ∧ b ≠ rk) H' true ms L ∧ L.length = j ∧ runBurst 0 h (u.map (requestOfUnit z)) = ((runBurst j hk ((u.map (requestOfUnit z)).drop j)).1, L ++ (runBurst j hk ((u.map (requestOfUnit z)).drop j)).2))
    ⟨h, rr, [], [], none, none, none, rfl, c1, fun b h => free_upd h, hK.same (same_upd hD), .inl rfl, upd_same, nDr, .nil, rfl, rfl⟩ (fun j σ H' _ ⟨_, _, _, _, _, _, _, _, c, _⟩ => hK.offR.1.toOff.sqT c hte) ?_ ?_
  · rintro j xv σ H3 H4 hj ⟨hk, rk, L, ms, o4, o5, o6, rfl, c3, b3, E3, hrk, h3, nDk, p3, hL, eb⟩ ⟨Tp, x1, y1, rfl, hT, rfl, e1, e2⟩
    cases e1
    have hj : j < (u.map unitT).length := hj
    rw [List.length_map] at hj
    obtain ⟨cu, ecu, rfl⟩ := get_map (show (u.map unitT)[j]? = some y1 from e2)
    have s4 : Same H3 (upd H3 Tp (.tup [intT j, unitT cu])) := same_upd hT
    have hTp : upd H3 Tp (.tup [intT j, unitT cu]) Tp = some (.tup [intT j, unitT cu]) := upd_same
    generalize upd H3 Tp (.tup [intT j, unitT cu]) = H5 at s4 hTp ⊢
    have c5 : Chg (Two a rr) H H5 := c3.trans (Chg.of_same s4)
    have b5 : ∀ b, H5 b = none → H b = none := fun b hb => b3 b (s4.free hb)
    have E5 := E3.same s4
    have h5 := s4 _ _ h3
    have p5 : PlsAt T (fun b => (I b ∨ FreshA H H5 b) ∧ b ≠ D ∧ b ≠ rk) H5 true ms L := (p3.same s4).mono fun b hb => ⟨hb.1.imp id fun y => ⟨y.1, fun e => y.2 (s4.free e)⟩, hb.2⟩
    obtain ⟨_, ⟨dx5, r5, _, h5a, _, _, nIk, _⟩, _⟩ := id E5
    have ed : (u.map (requestOfUnit z)).drop j = requestOfUnit z cu :: (u.map (requestOfUnit z)).drop (j + 1) := by
      rw [List.drop_eq_getElem_cons (by rw [List.length_map]; exact hj)]
      congr 1
      rw [List.getElem_map]
      congr 1
      rw [List.getElem?_eq_getElem hj] at ecu
      exact Option.some.inj ecu
    rw [ed, burst_step] at eb
    refine ⟨Tp, _, rfl, SqT.of hTp, rfl, _, _, rfl, _, _, rfl, rfl, _, rfl, rfl, _, rfl, ?_⟩
    refine ite2 (fun c110 => ?_) (fun c110 => ?_)
    · have c110 : cu.toNat = 110 := by
        have := of_decide_eq_true ((eqi cu.toNat 110).symm.trans c110)
        omega
      -- n: goes on
      have eR : requestOfUnit z cu = .next .undef := if_pos c110
      refine ⟨le_line (by show 1 ≤ _; decide), fun D1 hD1 => ?_⟩
      have s6 : Same H5 (upd H5 D1 (.lst [.str "result"])) := same_upd hD1
      have h6D1 : upd H5 D1 (.lst [.str "result"]) D1 = some (.lst [.str "result"]) := upd_same
      generalize upd H5 D1 (.lst [.str "result"]) = H6 at s6 h6D1 ⊢
      have E6 := E5.same s6
      have h6a := s6 _ _ h5a
      have h6 := s6 _ _ h5
      have nD1a : ¬ D1 = a := fun e => by rw [e, h5a] at hD1; cases hD1
      have nD1k : ¬ D1 = rk := fun e => E5.two rk (.inr rfl) (e ▸ hD1)
      have b6 : ∀ b, H6 b = none → H b = none := fun b hb => b5 b (s6.free hb)
      refine ⟨_, rfl, a, _, _, rfl, h6a, noEnumeration_go_on, .ref a, a, cd, rk, R, hk, I, rfl, vr, E6, fun H7 tp ov u7 fb c7 E7 t7 eo po => ⟨tp, _, rfl, .inr t7, fun Z hZ => ⟨D1, Z, _, _, rfl, rfl, upd_keep (c7 _ _ h6D1 (fun e => by rcases e with e | e <;> contradiction)) hZ, upd_same, le_line (by show 3 ≤ _; decide), fun R9 hR9 => ?_⟩⟩⟩
      have c07 : Chg (Two a rr) H H7 := chg_in ((c5.trans (Chg.of_same s6))) c7 fun b hb => by
        rcases hb with e | e
        · exact .inl (.inl e)
        · rcases hrk with y | y
          · exact .inl (.inr (e.trans y))
          · exact .inr (e ▸ y)
      have b67 := bck_of c7 E7.two
      have b7 : ∀ b, H7 b = none → H b = none := fun b hb => b6 b (b67 b hb)
      have h7 : H7 D = some (.lst ms) := c7 _ _ h6 (fun e => by rcases e with e | e <;> contradiction)
      have p7 : PlsAt T (fun b => (I b ∨ FreshA H H7 b) ∧ b ≠ D ∧ b ≠ rk) H7 true ms L := ((p5.same s6).off (E6.offJ fun b hb => hb.2.2) c7).mono fun b hb => ⟨hb.1.imp id fun y => ⟨y.1, fun e => y.2 (s6.free (b67 b e))⟩, hb.2⟩

      have s79 : Same H7 (upd (upd H7 Z (.lst [ov, .bl fb])) R9 (.lst ([.str "result"] ++ [ov, .bl fb]))) := same_upd2 (same_upd hZ) ((same_upd hZ).free hR9)
      have h9l : upd (upd H7 Z (.lst [ov, .bl fb])) R9 (.lst ([.str "result"] ++ [ov, .bl fb])) R9 = some (.lst [.str "result", ov, .bl fb]) := upd_same
      have b79 : ∀ b, upd (upd H7 Z (.lst [ov, .bl fb])) R9 (.lst ([.str "result"] ++ [ov, .bl fb])) b = none → H7 b = none := fun b hb => s79.free hb
      generalize upd (upd H7 Z (.lst [ov, .bl fb])) R9 (.lst ([.str "result"] ++ [ov, .bl fb])) = H9 at s79 h9l b79 ⊢
      have c9 : Chg (Two a rr) H H9 := c07.trans (Chg.of_same s79)
      have b9 : ∀ b, H9 b = none → H b = none := fun b hb => b7 b (b79 b hb)
      have h9 := s79 _ _ h7
      have nDk' := nDk
      have hrk' := hrk
      have p9 : PlsAt T (fun b => (I b ∨ FreshA H H9 b) ∧ b ≠ D ∧ b ≠ rk) H9 true ms L := (p7.same s79).mono fun b hb => ⟨hb.1.imp id fun y => ⟨y.1, fun e => y.2 (b79 b e)⟩, hb.2⟩

      have E9 : EnAt T I H9 (.ref a) a cd rk R (R7244e.Spec.enumerationRequest hk (requestOfUnit z cu)).1 := by
        rw [eR]
        exact E7.same s79
      have elo : outcomeList (R7244e.Spec.enumerationRequest hk (requestOfUnit z cu)).2 = .arr [R7244e.Spec.text "result", u7, .bool fb] := by
        rw [eR]
        exact out_step eo
      have pl : PlsAt T (fun b => (I b ∨ FreshA H H9 b) ∧ b ≠ D ∧ b ≠ rk) H9 true [.str "result", ov, .bl fb] [R7244e.Spec.text "result", u7, .bool fb] :=
        .cons (PlAt.pst ac_result nm_result) (.cons ((po.same s79).mono fun b hb => ⟨.inr ⟨b6 b hb.1, fun e => hb.2 (b79 b e)⟩, (fun e => by have h1 := hb.1; rw [e, h6] at h1; cases h1), fun e => E6.two rk (.inr rfl) (e ▸ hb.1)⟩) (.cons (.bool fb) .nil))
      obtain ⟨la, its, lo, rk', el⟩ : ∃ (la : Addr) (its : List V) (lo : List Plain) (rk' : Addr), la = R9 ∧ its = [.str "result", ov, .bl fb] ∧ lo = [R7244e.Spec.text "result", u7, .bool fb] ∧ rk' = rk := ⟨_, _, _, _, rfl, rfl, rfl, rfl⟩
      obtain ⟨el1, el2, el3, el4⟩ := el
      rw [← el4] at E9 pl p9 nDk' hrk'
      rw [← el2, ← el3] at pl
      rw [← el3] at elo
      rw [← el1, ← el2] at h9l
      rw [← el1]
      have hits : its.length ≤ 3 := by rw [el2]; simp
      have len9 : ms.length = j := by rw [p9.len, hL]
      refine ⟨_, rfl, .inl ⟨rfl, _, SqL.of h9⟩, _, rfl, le_line (by show 1 ≤ _; decide), fun N1 hN1 => ⟨_, rfl, N1, la, _, _, rfl, rfl, upd_same, upd_keep h9l hN1, le_line (by show 1 + _ ≤ _; omega), fun N2 hN2 => ?_⟩⟩
      have s10 : Same H9 (upd (upd H9 N1 (.lst [intT j])) N2 (.lst ([intT j] ++ its))) := same_upd2 (same_upd hN1) ((same_upd hN1).free hN2)
      have h10N : upd (upd H9 N1 (.lst [intT j])) N2 (.lst ([intT j] ++ its)) N2 = some (.lst ([intT j] ++ its)) := upd_same
      have n2 : H9 N2 = none := (same_upd hN1).free hN2
      generalize upd (upd H9 N1 (.lst [intT j])) N2 (.lst ([intT j] ++ its)) = H10 at s10 h10N ⊢
      have h10D := s10 _ _ h9
      have n2D : N2 ≠ D := fun e => by rw [e, h9] at n2; cases n2
      have n2k : N2 ≠ rk' := fun e => E9.two rk' (.inr rfl) (e ▸ n2)
      have mv : ∀ b, ((I b ∨ FreshA H H9 b) ∧ b ≠ D ∧ b ≠ rk') → ((I b ∨ FreshA H (upd H10 D (.lst (ms ++ [.ref N2]))) b) ∧ b ≠ D ∧ b ≠ rk') := fun b hb => ⟨hb.1.imp id fun y => ⟨y.1, fun e => y.2 (s10.free (free_upd e))⟩, hb.2⟩
      have pr : PlsAt T (fun b => (I b ∨ FreshA H H10 b) ∧ b ≠ D ∧ b ≠ rk') H10 true (ms ++ [.ref N2]) (L ++ [.arr (R7244e.Spec.nat j :: lo)]) :=
        ((p9.same s10).mono fun b hb => ⟨hb.1.imp id fun y => ⟨y.1, fun e => y.2 (s10.free e)⟩, hb.2⟩).snoc (.arr ⟨.inr ⟨b9 _ n2, by rw [h10N]; simp⟩, n2D, n2k⟩ (SqL.of h10N) (.cons (.num _) ((pl.same s10).mono fun b hb => ⟨hb.1.imp id fun y => ⟨y.1, fun e => y.2 (s10.free e)⟩, hb.2⟩)))
      refine ⟨D, ms, .ref N2, rfl, rfl, h10D, lt_line (by omega), (R7244e.Spec.enumerationRequest hk (requestOfUnit z cu)).1, rk', L ++ [.arr (R7244e.Spec.nat j :: lo)], ms ++ [.ref N2], _, _, _, rfl, chg_upd (c9.trans (Chg.of_same s10)) (.inl hD), fun b hb => b9 b (s10.free (free_upd hb)), (E9.same s10).updL h10D (fun i => f.al D i hD) nDk'.symm, hrk', upd_same, nDk', ?_, by rw [List.length_append, hL]; rfl, ?_⟩
      · exact PlsAt.keep (keeps_upd h10D (fun b hb => ⟨hb.1.imp id fun y => ⟨y.1, fun e => y.2 (free_upd e)⟩, hb.2⟩) (fun b hb => hb.2.1)) (fun e => e) pr
      · rw [eb, elo, List.append_assoc]
        rfl
    · have c110 : ¬ cu.toNat = 110 := fun e => c110 ((eqi cu.toNat 110).trans (decide_eq_true (by omega)))
      refine ⟨_, rfl, rfl, _, rfl, ?_⟩
      refine ite2 (fun c116 => ?_) (fun c116 => ?_)
      · have c116 : cu.toNat = 116 := by
          have := of_decide_eq_true ((eqi cu.toNat 116).symm.trans c116)
          omega
        -- t: a signal
        have eR : requestOfUnit z cu = .throw z := by
          unfold requestOfUnit
          rw [if_neg c110, if_pos c116]
        refine ⟨_, rfl, a, _, _, rfl, h5a, noEnumeration_signal, _, rfl, aa, _, 2, v2, rfl, rfl, args_off hK c5 hq, at2, .ref a, v2, z, a, cd, rk, R, hk, I, I, rfl, vr, E5, (fun b hb e => f.al b hb (b5 b e)), p2.off hK.offR.2 c5, nIk, fun H9 la' rk' c7 hrr7 E7 ⟨la, its, lo, erl, hla, nla, h9l, eol, pls⟩ hA7 => ?_⟩
        cases erl
        have c9 : Chg (Two a rr) H H9 := chg_in c5 c7 fun b hb => by
          rcases hb with e | e
          · exact .inl (.inl e)
          · rcases hrk with y | y
            · exact .inl (.inr (e.trans y))
            · exact .inr (e ▸ y)
        have b59 := bck_of c7 hA7
        have b9 : ∀ b, H9 b = none → H b = none := fun b hb => b5 b (b59 b hb)
        have h9 : H9 D = some (.lst ms) := c7 _ _ h5 (fun e => by rcases e with e | e <;> contradiction)
        have nDk' : D ≠ rk' := fun e => by
          rcases hrr7 with y | y
          · exact nDk (e.trans y)
          · rw [← e, h5] at y; cases y
        have hrk' : rk' = rr ∨ H rk' = none := by
          rcases hrr7 with y | y
          · rw [y]; exact hrk
          · exact .inr (b5 _ y)
        have p9 : PlsAt T (fun b => (I b ∨ FreshA H H9 b) ∧ b ≠ D ∧ b ≠ rk') H9 true ms L := (p5.off (E5.offJ fun b hb => hb.2.2) c7).mono fun b hb => ⟨hb.1.imp id fun y => ⟨y.1, fun e => y.2 (b59 b e)⟩, hb.2.1, fun e => by
          rcases hrr7 with y | y
          · exact hb.2.2 (e.trans y)
          · rcases hb.1 with i | i
            · exact f.al b i (b5 b (e ▸ y))
            · exact i.2 (e ▸ y)⟩
        have pl : PlsAt T (fun b => (I b ∨ FreshA H H9 b) ∧ b ≠ D ∧ b ≠ rk') H9 true its lo := pls.mono fun b hb => ⟨hb.1.imp id fun y => ⟨b5 b y.1, y.2⟩, (fun e => by
          rcases hb.1 with i | i
          · exact f.al b i (e ▸ hD)
          · have i1 := i.1
            rw [e, h5] at i1
            cases i1), hb.2⟩
        have E9 : EnAt T I H9 (.ref a) a cd rk' R (R7244e.Spec.enumerationRequest hk (requestOfUnit z cu)).1 := by
          rw [eR]
          exact E7
        have elo : outcomeList (R7244e.Spec.enumerationRequest hk (requestOfUnit z cu)).2 = .arr lo := by
          rw [eR]
          exact eol
        have hits : its.length ≤ 3 := by
          rw [pls.len]
          exact out_len eol
        have len9 : ms.length = j := by rw [p9.len, hL]
        refine ⟨_, rfl, .inl ⟨rfl, _, SqL.of h9⟩, _, rfl, le_line (by show 1 ≤ _; decide), fun N1 hN1 => ⟨_, rfl, N1, la, _, _, rfl, rfl, upd_same, upd_keep h9l hN1, le_line (by show 1 + _ ≤ _; omega), fun N2 hN2 => ?_⟩⟩
        have s10 : Same H9 (upd (upd H9 N1 (.lst [intT j])) N2 (.lst ([intT j] ++ its))) := same_upd2 (same_upd hN1) ((same_upd hN1).free hN2)
        have h10N : upd (upd H9 N1 (.lst [intT j])) N2 (.lst ([intT j] ++ its)) N2 = some (.lst ([intT j] ++ its)) := upd_same
        have n2 : H9 N2 = none := (same_upd hN1).free hN2
        generalize upd (upd H9 N1 (.lst [intT j])) N2 (.lst ([intT j] ++ its)) = H10 at s10 h10N ⊢
        have h10D := s10 _ _ h9
        have n2D : N2 ≠ D := fun e => by rw [e, h9] at n2; cases n2
        have n2k : N2 ≠ rk' := fun e => E9.two rk' (.inr rfl) (e ▸ n2)
        have mv : ∀ b, ((I b ∨ FreshA H H9 b) ∧ b ≠ D ∧ b ≠ rk') → ((I b ∨ FreshA H (upd H10 D (.lst (ms ++ [.ref N2]))) b) ∧ b ≠ D ∧ b ≠ rk') := fun b hb => ⟨hb.1.imp id fun y => ⟨y.1, fun e => y.2 (s10.free (free_upd e))⟩, hb.2⟩
        have pr : PlsAt T (fun b => (I b ∨ FreshA H H10 b) ∧ b ≠ D ∧ b ≠ rk') H10 true (ms ++ [.ref N2]) (L ++ [.arr (R7244e.Spec.nat j :: lo)]) :=
          ((p9.same s10).mono fun b hb => ⟨hb.1.imp id fun y => ⟨y.1, fun e => y.2 (s10.free e)⟩, hb.2⟩).snoc (.arr ⟨.inr ⟨b9 _ n2, by rw [h10N]; simp⟩, n2D, n2k⟩ (SqL.of h10N) (.cons (.num _) ((pl.same s10).mono fun b hb => ⟨hb.1.imp id fun y => ⟨y.1, fun e => y.2 (s10.free e)⟩, hb.2⟩)))
        refine ⟨D, ms, .ref N2, rfl, rfl, h10D, lt_line (by omega), (R7244e.Spec.enumerationRequest hk (requestOfUnit z cu)).1, rk', L ++ [.arr (R7244e.Spec.nat j :: lo)], ms ++ [.ref N2], _, _, _, rfl, chg_upd (c9.trans (Chg.of_same s10)) (.inl hD), fun b hb => b9 b (s10.free (free_upd hb)), (E9.same s10).updL h10D (fun i => f.al D i hD) nDk'.symm, hrk', upd_same, nDk', ?_, by rw [List.length_append, hL]; rfl, ?_⟩
        · exact PlsAt.keep (keeps_upd h10D (fun b hb => ⟨hb.1.imp id fun y => ⟨y.1, fun e => y.2 (free_upd e)⟩, hb.2⟩) (fun b hb => hb.2.1)) (fun e => e) pr
        · rw [eb, elo, List.append_assoc]
          rfl
      · have c116 : ¬ cu.toNat = 116 := fun e => c116 ((eqi cu.toNat 116).trans (decide_eq_true (by omega)))
        -- r: is finished
        have eR : requestOfUnit z cu = .ret z := by
          unfold requestOfUnit
          rw [if_neg c110, if_neg c116]
        refine ⟨le_line (by show 1 ≤ _; decide), fun D1 hD1 => ?_⟩
        have s6 : Same H5 (upd H5 D1 (.lst [.str "result"])) := same_upd hD1
        have h6D1 : upd H5 D1 (.lst [.str "result"]) D1 = some (.lst [.str "result"]) := upd_same
        generalize upd H5 D1 (.lst [.str "result"]) = H6 at s6 h6D1 ⊢
        have E6 := E5.same s6
        have h6a := s6 _ _ h5a
        have h6 := s6 _ _ h5
        have nD1a : ¬ D1 = a := fun e => by rw [e, h5a] at hD1; cases hD1
        have nD1k : ¬ D1 = rk := fun e => E5.two rk (.inr rfl) (e ▸ hD1)
        have b6 : ∀ b, H6 b = none → H b = none := fun b hb => b5 b (s6.free hb)
        have c06 := c5.trans (Chg.of_same s6)
        refine ⟨_, rfl, a, _, _, rfl, h6a, noEnumeration_finish, _, rfl, aa, _, 2, v2, rfl, rfl, args_off hK c06 hq, at2, .ref a, v2, a, cd, rk, R, hk, I, rfl, E6, fun H7 tp c7a E7 t7 => ?_⟩
        have c7 : Chg (Two a rk) H6 H7 := c7a.mono fun b e => .inl e
        obtain ⟨ov, fb, eov, efb⟩ : ∃ (ov : V) (fb : Bool), ov = v2 ∧ fb = true := ⟨_, _, rfl, rfl⟩
        rw [← eov, ← efb] at t7
        refine ⟨tp, _, rfl, .inr t7, fun Z hZ => ⟨D1, Z, _, _, rfl, rfl, upd_keep (c7 _ _ h6D1 (fun e => by rcases e with e | e <;> contradiction)) hZ, upd_same, le_line (by show 3 ≤ _; decide), fun R9 hR9 => ?_⟩⟩
        have c07 : Chg (Two a rr) H H7 := chg_in ((c5.trans (Chg.of_same s6))) c7 fun b hb => by
          rcases hb with e | e
          · exact .inl (.inl e)
          · rcases hrk with y | y
            · exact .inl (.inr (e.trans y))
            · exact .inr (e ▸ y)
        have b67 := bck_of c7 E7.two
        have b7 : ∀ b, H7 b = none → H b = none := fun b hb => b6 b (b67 b hb)
        have h7 : H7 D = some (.lst ms) := c7 _ _ h6 (fun e => by rcases e with e | e <;> contradiction)
        have p7 : PlsAt T (fun b => (I b ∨ FreshA H H7 b) ∧ b ≠ D ∧ b ≠ rk) H7 true ms L := ((p5.same s6).off (E6.offJ fun b hb => hb.2.2) c7).mono fun b hb => ⟨hb.1.imp id fun y => ⟨y.1, fun e => y.2 (s6.free (b67 b e))⟩, hb.2⟩

        have s79 : Same H7 (upd (upd H7 Z (.lst [ov, .bl fb])) R9 (.lst ([.str "result"] ++ [ov, .bl fb]))) := same_upd2 (same_upd hZ) ((same_upd hZ).free hR9)
        have h9l : upd (upd H7 Z (.lst [ov, .bl fb])) R9 (.lst ([.str "result"] ++ [ov, .bl fb])) R9 = some (.lst [.str "result", ov, .bl fb]) := upd_same
        have b79 : ∀ b, upd (upd H7 Z (.lst [ov, .bl fb])) R9 (.lst ([.str "result"] ++ [ov, .bl fb])) b = none → H7 b = none := fun b hb => s79.free hb
        generalize upd (upd H7 Z (.lst [ov, .bl fb])) R9 (.lst ([.str "result"] ++ [ov, .bl fb])) = H9 at s79 h9l b79 ⊢
        have c9 : Chg (Two a rr) H H9 := c07.trans (Chg.of_same s79)
        have b9 : ∀ b, H9 b = none → H b = none := fun b hb => b7 b (b79 b hb)
        have h9 := s79 _ _ h7
        have nDk' := nDk
        have hrk' := hrk
        have p9 : PlsAt T (fun b => (I b ∨ FreshA H H9 b) ∧ b ≠ D ∧ b ≠ rk) H9 true ms L := (p7.same s79).mono fun b hb => ⟨hb.1.imp id fun y => ⟨y.1, fun e => y.2 (b79 b e)⟩, hb.2⟩

        have E9 : EnAt T I H9 (.ref a) a cd rk R (R7244e.Spec.enumerationRequest hk (requestOfUnit z cu)).1 := by
          rw [eR]
          exact E7.same s79
        have elo : outcomeList (R7244e.Spec.enumerationRequest hk (requestOfUnit z cu)).2 = .arr [R7244e.Spec.text "result", z, .bool fb] := by
          rw [eR]
          rw [efb]
          exact out_step rfl
        have pl : PlsAt T (fun b => (I b ∨ FreshA H H9 b) ∧ b ≠ D ∧ b ≠ rk) H9 true [.str "result", ov, .bl fb] [R7244e.Spec.text "result", z, .bool fb] :=
          .cons (PlAt.pst ac_result nm_result) (.cons (eov ▸ ((p2.off hK.offR.2 c9).keep (keeps_same (Same.refl _) fun b hb => ⟨.inl hb, fun e => f.al b hb (e ▸ hD), fun e => nIk (e ▸ hb)⟩) (fun _ => rfl))) (.cons (.bool fb) .nil))
        obtain ⟨la, its, lo, rk', el⟩ : ∃ (la : Addr) (its : List V) (lo : List Plain) (rk' : Addr), la = R9 ∧ its = [.str "result", ov, .bl fb] ∧ lo = [R7244e.Spec.text "result", z, .bool fb] ∧ rk' = rk := ⟨_, _, _, _, rfl, rfl, rfl, rfl⟩
        obtain ⟨el1, el2, el3, el4⟩ := el
        rw [← el4] at E9 pl p9 nDk' hrk'
        rw [← el2, ← el3] at pl
        rw [← el3] at elo
        rw [← el1, ← el2] at h9l
        rw [← el1]
        have hits : its.length ≤ 3 := by rw [el2]; simp
        have len9 : ms.length = j := by rw [p9.len, hL]
        refine ⟨_, rfl, .inl ⟨rfl, _, SqL.of h9⟩, _, rfl, le_line (by show 1 ≤ _; decide), fun N1 hN1 => ⟨_, rfl, N1, la, _, _, rfl, rfl, upd_same, upd_keep h9l hN1, le_line (by show 1 + _ ≤ _; omega), fun N2 hN2 => ?_⟩⟩
        have s10 : Same H9 (upd (upd H9 N1 (.lst [intT j])) N2 (.lst ([intT j] ++ its))) := same_upd2 (same_upd hN1) ((same_upd hN1).free hN2)
        have h10N : upd (upd H9 N1 (.lst [intT j])) N2 (.lst ([intT j] ++ its)) N2 = some (.lst ([intT j] ++ its)) := upd_same
        have n2 : H9 N2 = none := (same_upd hN1).free hN2
        generalize upd (upd H9 N1 (.lst [intT j])) N2 (.lst ([intT j] ++ its)) = H10 at s10 h10N ⊢
        have h10D := s10 _ _ h9
        have n2D : N2 ≠ D := fun e => by rw [e, h9] at n2; cases n2
        have n2k : N2 ≠ rk' := fun e => E9.two rk' (.inr rfl) (e ▸ n2)
        have mv : ∀ b, ((I b ∨ FreshA H H9 b) ∧ b ≠ D ∧ b ≠ rk') → ((I b ∨ FreshA H (upd H10 D (.lst (ms ++ [.ref N2]))) b) ∧ b ≠ D ∧ b ≠ rk') := fun b hb => ⟨hb.1.imp id fun y => ⟨y.1, fun e => y.2 (s10.free (free_upd e))⟩, hb.2⟩
        have pr : PlsAt T (fun b => (I b ∨ FreshA H H10 b) ∧ b ≠ D ∧ b ≠ rk') H10 true (ms ++ [.ref N2]) (L ++ [.arr (R7244e.Spec.nat j :: lo)]) :=
          ((p9.same s10).mono fun b hb => ⟨hb.1.imp id fun y => ⟨y.1, fun e => y.2 (s10.free e)⟩, hb.2⟩).snoc (.arr ⟨.inr ⟨b9 _ n2, by rw [h10N]; simp⟩, n2D, n2k⟩ (SqL.of h10N) (.cons (.num _) ((pl.same s10).mono fun b hb => ⟨hb.1.imp id fun y => ⟨y.1, fun e => y.2 (s10.free e)⟩, hb.2⟩)))
        refine ⟨D, ms, .ref N2, rfl, rfl, h10D, lt_line (by omega), (R7244e.Spec.enumerationRequest hk (requestOfUnit z cu)).1, rk', L ++ [.arr (R7244e.Spec.nat j :: lo)], ms ++ [.ref N2], _, _, _, rfl, chg_upd (c9.trans (Chg.of_same s10)) (.inl hD), fun b hb => b9 b (s10.free (free_upd hb)), (E9.same s10).updL h10D (fun i => f.al D i hD) nDk'.symm, hrk', upd_same, nDk', ?_, by rw [List.length_append, hL]; rfl, ?_⟩
        · exact PlsAt.keep (keeps_upd h10D (fun b hb => ⟨hb.1.imp id fun y => ⟨y.1, fun e => y.2 (free_upd e)⟩, hb.2⟩) (fun b hb => hb.2.1)) (fun e => e) pr
        · rw [eb, elo, List.append_assoc]
          rfl
  · rintro σ H3 ⟨hk, rk, L, ms, o4, o5, o6, rfl, c3, b3, E3, hrk, h3, nDk, p3, hL, eb⟩
    have e0 : (u.map (requestOfUnit z)).drop (u.map unitT).length = [] := List.drop_eq_nil_of_le (by rw [List.length_map, List.length_map]; exact Nat.le_refl _)
    rw [e0] at eb
    have eb : runBurst 0 h (u.map (requestOfUnit z)) = (hk, L ++ []) := eb
    rw [List.append_nil] at eb
    rw [eb] at q
    have q3 : SlE T I H3 (.ref a) (some hk) (fun b => b = a ∨ b = cd ∨ b = rk) := ⟨a, cd, rk, R, vr, E3, fun b => Iff.rfl⟩
    have f3 := f.enum (M := Two a rr) hk3 (fun b hb => (hm b).mpr (by rcases hb with hb | hb <;> simp [hb])) hK.offR.1 c3 (fun b hb e => hK.two b hb (b3 b e)) hv (fun b hb => by
      rcases hb with hb | hb | hb
      · exact .inl ((hm b).mpr (.inl hb))
      · exact .inl ((hm b).mpr (.inr (.inl hb)))
      · rcases hrk with y | y
        · exact .inl ((hm b).mpr (.inr (.inr (hb.trans y))))
        · exact .inr (hb ▸ y)) q3
    refine ⟨_, rfl, q _ rfl H3 I (fun b => I b ∨ FreshA H H3 b) _ f3 (.arr (.inr ⟨hD, by rw [h3]; simp⟩) (SqL.of h3) (p3.mono fun b hb => hb.1)) (fun b hb e => ?_)⟩
    rcases hb with hb | hb
    · exact f.al b hb (b3 b e)
    · exact hb.2 e

end
end SP

/-! ## SP12 -/
set_option maxHeartbeats 4000000
namespace SP
open PySem PySem.Spec PyProof.Rows L2 SB
open R7244e.Spec (storeWalker storeEnumeration walkerAt enumerationAt)
section
variable {K : PySem.W.Frag} {mg : Str → Option Value} {T : TX K mg} {I J M : Addr → Prop} {H H1 : Hp}
variable {X : Addr → HO → Prop} {s dx lw le : Addr} {w : SWorld} {ws es : List V} {MW ME : Nat → Addr → Prop}
theorem SlW.mono {v : V} {o : Option Walker} {N : Addr → Prop} (j : ∀ b, I b → J b) (q : SlW T I H v o N) : SlW T J H v o N := by
  cases o with
  | none => exact q
  | some h =>
    obtain ⟨a, cd, R, vr, q, m⟩ := q
    exact ⟨a, cd, R, vr, q.mono j, m⟩
theorem SlE.mono {v : V} {o : Option Enum} {N : Addr → Prop} (j : ∀ b, I b → J b) (n : ∀ b, N b → J b → I b) (q : SlE T I H v o N) : SlE T J H v o N := by
  cases o with
  | none => exact q
  | some h =>
    obtain ⟨a, cd, rr, R, vr, q, m⟩ := q
    refine ⟨a, cd, rr, R, vr, q.mono j (fun z => ?_), m⟩
    obtain ⟨_, ⟨_, _, _, _, _, _, nI, _⟩, _⟩ := q
    exact nI (n rr ((m rr).mpr (.inr (.inr rfl))) z)
/-- the list of slots is written: nothing else is touched -/
theorem offS (h : H lw = some (.lst ws)) (n : ¬ I lw) : OffR T (· = lw) I H :=
  { offL h n with ins := fun b C dx fs e z => by subst e; rw [h] at z; cases z }
theorem WoF.fresh_not (f : WoF T I X H s w dx lw le ws es MW ME) (b : Addr) (h : H b ≠ none) (n : ¬ I b) : ¬ New I H H1 b := fun z => by
  rcases z with z | z
  · exact n z
  · exact h z.1
/-- a new walk in a slot -/
theorem WoF.newW (f : WoF T I X H s w dx lw le ws es MW ME) {i : Nat} (hi : i < 3) (sm : Same H H1) {v : V} {h' : Walker} {M' : Addr → Prop} (hM : ∀ b, M' b → H b = none) (q : SlW T (New I H H1) H1 v (some h') M') :
    WoAt T (New I H H1) X (upd H1 lw (.lst (ws.set i v))) s (storeWalker w i h') := by
  have nlw : ¬ New I H H1 lw := f.fresh_not lw (by rw [f.f_lw]; simp) f.nI.1
  have nle : ¬ New I H H1 le := f.fresh_not le (by rw [f.f_le]; simp) f.nI.2.1
  have l1 := sm _ _ f.f_lw
  have oR : OffR T (· = lw) (New I H H1) H1 := offS l1 nlw
  have c2 : Chg (· = lw) H1 (upd H1 lw (.lst (ws.set i v))) := chg1
  have nsl : s ≠ lw := fun z => by have := f.f_s; rw [z, f.f_lw] at this; cases this
  have aw : ∀ {j b}, j < 3 → MW j b → H b ≠ none := fun hj n => by
    obtain ⟨u, _, q2⟩ := f.f_w _ hj
    exact q2.alloc n
  have ae : ∀ {j b}, j < 3 → ME j b → H b ≠ none := fun hj n => by
    obtain ⟨u, _, q2⟩ := f.f_e _ hj
    exact q2.alloc n
  refine ⟨dx, lw, le, ws.set i v, es, fun j b => (if j = i then M' b else MW j b) ∧ j < 3, fun j b => ME j b ∧ j < 3, ?_⟩
  refine ⟨c2 _ _ (sm _ _ f.f_s) nsl, upd_same, c2 _ _ (sm _ _ f.f_le) f.nI.2.2.symm, ⟨by rw [List.length_set]; exact f.lenW.1, by simp [storeWalker, f.lenW.2]⟩, f.lenE, ⟨nlw, nle, f.nI.2.2⟩, fun b hb z => al_new sm f.al b hb (free_upd z), ?_, ?_, ?_, ?_, ?_, ?_, ?_, ?_⟩
  · intro j hj
    have hl : i < w.walkers.length := by rw [f.lenW.2]; exact hi
    rw [at_storeW hl]
    by_cases e : j = i
    · subst e
      rw [if_pos rfl]
      refine ⟨v, List.getElem?_set_self (by rw [f.lenW.1]; exact hj), SlW.iff (N := M') (fun b => ⟨fun z => by have := z.1; rwa [if_pos rfl] at this, fun z => ⟨by rw [if_pos rfl]; exact z, hj⟩⟩) (q.off oR (fun b nb m => ?_) c2)⟩
      have := hM b nb
      rw [m, f.f_lw] at this
      cases this
    · rw [if_neg e]
      obtain ⟨u, hu, q2⟩ := f.f_w j hj
      exact ⟨u, by rw [List.getElem?_set_ne (fun z => e z.symm)]; exact hu, SlW.iff (N := MW j) (fun b => ⟨fun z => by have := z.1; rwa [if_neg e] at this, fun z => ⟨by rw [if_neg e]; exact z, hj⟩⟩) (((q2.same sm).mono (fun b z => .inl z)).off oR (fun b nb m => (f.wl j b nb).1 m) c2)⟩
  · intro j hj
    obtain ⟨u, hu, q2⟩ := f.f_e j hj
    refine ⟨u, hu, SlE.iff (N := ME j) (fun b => ⟨fun z => z.1, fun z => ⟨z, hj⟩⟩) (((q2.same sm).mono (fun b z => .inl z) (fun b nb z => ?_)).off oR (fun b nb m => (f.el j b nb).1 m) c2)⟩
    rcases z with z | z
    · exact z
    · exact absurd z.1 (ae hj nb)
  · rintro j k b ⟨h1, j3⟩ ⟨h2, k3⟩
    by_cases ej : j = i
    · rw [if_pos ej] at h1
      by_cases ek : k = i
      · rw [ej, ek]
      · rw [if_neg ek] at h2
        exact absurd (hM b h1) (aw k3 h2)
    · rw [if_neg ej] at h1
      by_cases ek : k = i
      · rw [if_pos ek] at h2
        exact absurd (hM b h2) (aw j3 h1)
      · rw [if_neg ek] at h2
        exact f.ww j k b h1 h2
  · intro j k b h1 h2
    exact f.ee j k b h1.1 h2.1
  · rintro j k b ⟨h1, j3⟩ ⟨h2, k3⟩
    by_cases ej : j = i
    · rw [if_pos ej] at h1
      exact absurd (hM b h1) (ae k3 h2)
    · rw [if_neg ej] at h1
      exact f.we j k b h1 h2
  · rintro j b ⟨h, j3⟩
    by_cases ej : j = i
    · rw [if_pos ej] at h
      have z := hM b h
      refine ⟨fun e => ?_, fun e => ?_, fun e => ?_⟩
      · rw [e, f.f_lw] at z; cases z
      · rw [e, f.f_le] at z; cases z
      · rw [e, f.f_s] at z; cases z
    · rw [if_neg ej] at h
      exact f.wl j b h
  · intro j b h
    exact f.el j b h.1
  · intro b o z
    obtain ⟨x1, x2, x3, x4, x5, x6⟩ := f.x b o z
    refine ⟨c2 _ _ (sm _ _ x1) x3, f.fresh_not b (by rw [x1]; simp) x2, x3, x4, x5, fun j hj => ⟨fun y => ?_, fun y => (x6 j hj).2 y.1⟩⟩
    have y := y.1
    by_cases ej : j = i
    · rw [if_pos ej] at y
      have := hM b y
      rw [x1] at this
      cases this
    · rw [if_neg ej] at y
      exact (x6 j hj).1 y
/-- a new enumeration in a slot -/
theorem WoF.newE (f : WoF T I X H s w dx lw le ws es MW ME) {i : Nat} (hi : i < 3) (sm : Same H H1) {v : V} {h' : Enum} {M' : Addr → Prop} (hM : ∀ b, M' b → H b = none) (j : ∀ b, I b → J b) (nJ : ∀ b, H b ≠ none → ¬ I b → ¬ J b) (alJ : Al J H1) (q : SlE T J H1 v (some h') M') :
    WoAt T J X (upd H1 le (.lst (es.set i v))) s (storeEnumeration w i h') := by
  have nlw : ¬ J lw := nJ lw (by rw [f.f_lw]; simp) f.nI.1
  have nle : ¬ J le := nJ le (by rw [f.f_le]; simp) f.nI.2.1
  have l1 := sm _ _ f.f_le
  have oR : OffR T (· = le) J H1 := offS l1 nle
  have c2 : Chg (· = le) H1 (upd H1 le (.lst (es.set i v))) := chg1
  have nsl : s ≠ le := fun z => by have := f.f_s; rw [z, f.f_le] at this; cases this
  have aw : ∀ {j b}, j < 3 → MW j b → H b ≠ none := fun hj n => by
    obtain ⟨u, _, q2⟩ := f.f_w _ hj
    exact q2.alloc n
  have ae : ∀ {j b}, j < 3 → ME j b → H b ≠ none := fun hj n => by
    obtain ⟨u, _, q2⟩ := f.f_e _ hj
    exact q2.alloc n
  refine ⟨dx, lw, le, ws, es.set i v, fun j b => MW j b ∧ j < 3, fun j b => (if j = i then M' b else ME j b) ∧ j < 3, ?_⟩
  refine ⟨c2 _ _ (sm _ _ f.f_s) nsl, c2 _ _ (sm _ _ f.f_lw) f.nI.2.2, upd_same, f.lenW, ⟨by rw [List.length_set]; exact f.lenE.1, by simp [storeEnumeration, f.lenE.2]⟩, ⟨nlw, nle, f.nI.2.2⟩, fun b hb z => alJ b hb (free_upd z), ?_, ?_, ?_, ?_, ?_, ?_, ?_, ?_⟩
  · intro k hk
    obtain ⟨u, hu, q2⟩ := f.f_w k hk
    exact ⟨u, hu, SlW.iff (N := MW k) (fun b => ⟨fun z => z.1, fun z => ⟨z, hk⟩⟩) (((q2.same sm).mono j).off oR (fun b nb m => (f.wl k b nb).2.1 m) c2)⟩
  · intro k hk
    have hl : i < w.enumerations.length := by rw [f.lenE.2]; exact hi
    rw [at_storeE hl]
    by_cases e : k = i
    · subst e
      rw [if_pos rfl]
      refine ⟨v, List.getElem?_set_self (by rw [f.lenE.1]; exact hk), SlE.iff (N := M') (fun b => ⟨fun z => by have := z.1; rwa [if_pos rfl] at this, fun z => ⟨by rw [if_pos rfl]; exact z, hk⟩⟩) (q.off oR (fun b nb m => ?_) c2)⟩
      have := hM b nb
      rw [m, f.f_le] at this
      cases this
    · rw [if_neg e]
      obtain ⟨u, hu, q2⟩ := f.f_e k hk
      refine ⟨u, by rw [List.getElem?_set_ne (fun z => e z.symm)]; exact hu, SlE.iff (N := ME k) (fun b => ⟨fun z => by have := z.1; rwa [if_neg e] at this, fun z => ⟨by rw [if_neg e]; exact z, hk⟩⟩) (((q2.same sm).mono j (fun b nb z => ?_)).off oR (fun b nb m => (f.el k b nb).2.1 m) c2)⟩
      by_cases y : I b
      · exact y
      · exact absurd z (nJ b (ae hk nb) y)
  · intro k l b h1 h2
    exact f.ww k l b h1.1 h2.1
  · rintro k l b ⟨h1, j3⟩ ⟨h2, k3⟩
    by_cases ej : k = i
    · rw [if_pos ej] at h1
      by_cases ek : l = i
      · rw [ej, ek]
      · rw [if_neg ek] at h2
        exact absurd (hM b h1) (ae k3 h2)
    · rw [if_neg ej] at h1
      by_cases ek : l = i
      · rw [if_pos ek] at h2
        exact absurd (hM b h2) (ae j3 h1)
      · rw [if_neg ek] at h2
        exact f.ee k l b h1 h2
  · rintro k l b ⟨h1, j3⟩ ⟨h2, k3⟩
    by_cases ek : l = i
    · rw [if_pos ek] at h2
      exact absurd (hM b h2) (aw j3 h1)
    · rw [if_neg ek] at h2
      exact f.we k l b h1 h2
  · intro k b h
    exact f.wl k b h.1
  · rintro k b ⟨h, j3⟩
    by_cases ej : k = i
    · rw [if_pos ej] at h
      have z := hM b h
      refine ⟨fun e => ?_, fun e => ?_, fun e => ?_⟩
      · rw [e, f.f_lw] at z; cases z
      · rw [e, f.f_le] at z; cases z
      · rw [e, f.f_s] at z; cases z
    · rw [if_neg ej] at h
      exact f.el k b h
  · intro b o z
    obtain ⟨x1, x2, x3, x4, x5, x6⟩ := f.x b o z
    refine ⟨c2 _ _ (sm _ _ x1) x4, nJ b (by rw [x1]; simp) x2, x3, x4, x5, fun k hk => ⟨fun y => (x6 k hk).1 y.1, fun y => ?_⟩⟩
    have y := y.1
    by_cases ej : k = i
    · rw [if_pos ej] at y
      have := hM b y
      rw [x1] at this
      cases this
    · rw [if_neg ej] at y
      exact (x6 k hk).2 y
end
end SP

/-! ## E13 -/
set_option maxHeartbeats 4000000
namespace SP
open PySem PySem.Spec PyProof.Rows L2 SB
open SS (VC VG R Sz RateOk treeW ratesOf leadsTo)
open R7244e.Spec (reachable recurrentStates hasOneClass canMeet distribution wordProb endState coverage separation unstopped stopProbs survival entry target)
section
variable {P : Program} {w : World} {base : Heap}
variable {K : PySem.W.Frag} {mg : Str → Option Value}

open R7244e.Spec (readInt readChain readBias readNumber readStart runCall newWalker newEnumeration continuableWords)
theorem cut_tail (v : V) (l : List V) : cutV (v :: l) (some 1) none = l := by
  have e1 : HT.sIx (v :: l).length 0 (some 1) = 1 := by
    simp [HT.sIx]
  have e2 : HT.sIx (v :: l).length (v :: l).length none = (v :: l).length := rfl
  unfold cutV
  rw [e1, e2]
  simp
theorem walk_run {w : SWorld} {k : Nat} {x y z : Plain} : runCall w (.walk k x y z) = match readRu x y z with
    | .ok R => (R7244e.Spec.storeWalker w k (newWalker R.t R.g R.y R.p), .ret .undef)
    | .error e => (w, .fail e) := by
  show (match R7244e.Spec.makeWalker x y z with
    | .ok t => (R7244e.Spec.storeWalker w k t, (.ret .undef : R7244e.Spec.Ans))
    | .error e => (w, .fail e)) = _
  unfold R7244e.Spec.makeWalker readRu R7244e.Spec.withStationary R7244e.Spec.withChain R7244e.Spec.andThen
  cases readChain x with
  | error e => rfl
  | ok t =>
    cases readBias y with
    | error e => rfl
    | ok g =>
      simp only [readStart, R7244e.Spec.failRange]
      cases readInt 0 (t.length - 1) z with
      | none => rfl
      | some p =>
        simp only
        cases R7244e.Spec.stationaryOf t g <;> rfl
theorem enum_run {w : SWorld} {k : Nat} {x y z u : Plain} : runCall w (.enumerate k x y z u) = match readRu x y z with
    | .ok R => (match readNumber "maxLength" 0 4 u with
      | .ok n => (R7244e.Spec.storeEnumeration w k (newEnumeration R.t R.g R.y R.p n), .ret .undef)
      | .error e => (w, .fail e))
    | .error e => (w, .fail e) := by
  show (match R7244e.Spec.makeEnumeration x y z u with
    | .ok t => (R7244e.Spec.storeEnumeration w k t, (.ret .undef : R7244e.Spec.Ans))
    | .error e => (w, .fail e)) = _
  unfold R7244e.Spec.makeEnumeration readRu R7244e.Spec.withStationary R7244e.Spec.withChain R7244e.Spec.andThen
  cases readChain x with
  | error e => rfl
  | ok t =>
    cases readBias y with
    | error e => rfl
    | ok g =>
      simp only [readStart, R7244e.Spec.failRange]
      cases readInt 0 (t.length - 1) z with
      | none => rfl
      | some p =>
        simp only
        cases R7244e.Spec.stationaryOf t g with
        | none => rfl
        | some l => simp only; cases readNumber "maxLength" 0 4 u <;> rfl
abbrev s_walk_new : Stmt := topS 66
theorem sc_walk_new : FnScope ["slots", "args"] ["slots", "args"] (defScope s_walk_new) := SB.sc_by (by decide +kernel)
theorem ok_walk_new (T : TX K mg) (c_rule_in : SB.CalX P w K mg base 7 "rule_in" (sp_rule_in T)) (m_Nothing : SB.Mak P w K mg base 1 "Nothing" T.Nothing (sp_Nothing___init__ T)) (m_Walk : SB.Mak P w K mg base 1 "Walk" T.Walk (sp_Walk___init__ T))  {f : Addr} {fd : FuncData} (F : Fun K "walk_new" "walk_new" s_walk_new f fd) : FnOk P w K mg base (L2N.CX P w) 8 f fd ["slots", "args"] (sp_walk_new T) := by
  refine SB.okN F sc_walk_new len_walk_new (fun cdv A outer s H vs Q E hr h => ⟨_, (pss_cons (ps_asg (SB.mak m_Walk hr (by decide) rfl (pa_cons (SB.pe_cX c_rule_in hr (by decide) rfl (L2N.takes_of rfl rfl rfl rfl) (by exact (pa_cons (pe_slice (SB.kSlL (K := K) rfl) (pv 1) (po_some pe_int) po_none) pa_nil))) pa_nil)) (pg_sub (SB.kFld (K := K) rfl (pv 0) rfl) (pe_ix (SB.kIxL (K := K) rfl) (pv 1) pe_int (fun _ _ => rfl)) set_list)) (pss_one (ps_ret (SB.mak0 m_Nothing hr (by decide) rfl)))), ?_⟩)
  obtain ⟨s0, aa, l, w, c, I, X, rfl, hW, ⟨avs, hq, hps⟩, hl, hc, hin, q, e⟩ := h
  obtain ⟨x, y, z, u, rfl⟩ : ∃ x y z u, l = [x, y, z, u] := by
    match l, hl with
    | [x, y, z, u], _ => exact ⟨x, y, z, u, rfl⟩
  obtain ⟨k, ek, rfl⟩ : ∃ k, Rust.slotOf 2 x = some k ∧ c = .walk k y z u := by
    have h : Rust.callOf 7 [x, y, z, u] = (Rust.slotOf 2 x).bind fun s0 => some (.walk s0 y z u) := rfl
    rw [h] at hc
    cases e1 : Rust.slotOf 2 x with
    | none => rw [e1] at hc; cases hc
    | some k => rw [e1] at hc; exact ⟨k, rfl, (Option.some.inj hc).symm⟩
  obtain ⟨v0, vl, rfl, p0, pl⟩ := args_n1 hps
  obtain ⟨rfl, hk⟩ := slot_inv p0 ek
  obtain ⟨v1, v2, v3, _, _, p1, p2, p3, _⟩ := args_three pl
  have er := walk_run (w := w) (k := k) (x := y) (y := z) (z := u)
  refine ⟨_, rfl, _, rfl, aa, _, rfl, hq, fun S hS => ?_⟩
  rw [cut_tail]
  have sS : Same H (upd H S (.lst vl)) := same_upd hS
  have hSl : upd H S (.lst vl) S = some (.lst vl) := upd_same
  generalize upd H S (.lst vl) = HS at sS hSl ⊢
  refine ⟨S, y, z, u, [], I, rfl, ⟨vl, SqL.of hSl, pl.same sS⟩, fun R eR H1 r cd s1 hcd hR => ?_, fun er' ee H' d s' h' => ?_⟩
  · rw [eR] at er
    simp only at er
    rw [er] at q
    have vr := ru_vr p1 p3 eR
    have s01 := sS.trans s1
    have hcd0 : H cd = none := sS.free hcd
    intro xw dx hx hdx nd
    have sm : Same H1 (upd (upd H1 dx (.own xw)) xw (.ins T.Walk dx [])) := fun b u e => by rw [upd_ne (ne_of_none e hx), upd_ne (ne_of_none e hdx)]; exact e
    refine ⟨xw, dx, cd, r, R, New I HS H1, rfl, upd_same, hR.same sm, fun H3 c3 W3 => ⟨rfl, ?_⟩⟩
    have s3 := mk_same hx hdx c3
    have s03 := s01.trans s3
    obtain ⟨dxs, lw, le, ws, es, MW, ME, f⟩ := hW
    have jj : ∀ b, New I HS H1 b → New I H H3 b := fun b hb => hb.imp id fun y => ⟨sS.free y.1, fun e => y.2 (s3.free e)⟩
    have q3 : SlW T (New I H H3) H3 (.ref xw) (some (newWalker R.t R.g R.y R.p)) (fun b => b = xw ∨ b = cd) :=
      ⟨xw, cd, R, vr, WkAt.mono jj ⟨[], false, false, W3, ⟨rfl, rfl, rfl⟩, rfl, rfl, rfl, rfl⟩, fun b => Iff.rfl⟩
    have f4 := f.newW hk s03 (fun b hb => by
      rcases hb with hb | hb
      · rw [hb]; exact s01.free hx
      · rw [hb]; exact hcd0) q3
    refine ⟨_, rfl, s0, T.Slots, _, _, _, rfl, (s03 _ _ f.f_s), T.clSlots, T.nSlots_walks, lkSlots_walks, _, rfl, aa, _, 0, _, rfl, rfl, seq_same s03 hq, at0, lw, ws, _, k, rfl, rfl, s03 _ _ f.f_lw, ixN_nat (by rw [f.lenW.1]; exact hk), ?_⟩
    intro x2 dx2 hx2 hdx2 nd2
    refine ⟨x2, dx2, rfl, upd_same, fun H5 en c5 h5 => ⟨rfl, ?_⟩⟩
    have s5 := mk_same hx2 hdx2 c5
    exact q .undef rfl H5 _ (fun _ => False) _ (WoAt.same s5 f4) (.undef h5) (fun _ h => h.elim)
  · rw [ee] at er
    simp only at er
    rw [er] at e
    exact e _ rfl H' I d (hW.same (sS.trans s')) h'
abbrev s_enumeration_new : Stmt := topS 72
theorem sc_enumeration_new : FnScope ["slots", "args", "rule"] ["slots", "args"] (defScope s_enumeration_new) := SB.sc_by (by decide +kernel)
theorem ok_enumeration_new (T : TX K mg) (c_check_steps : SB.CalX P w K mg base 4 "check_steps" (sp_check_steps T)) (c_rule_in : SB.CalX P w K mg base 7 "rule_in" (sp_rule_in T)) (m_Enumeration : SB.Mak P w K mg base 9 "Enumeration" T.Enumeration (sp_Enumeration___init__ T)) (m_Nothing : SB.Mak P w K mg base 1 "Nothing" T.Nothing (sp_Nothing___init__ T))  {f : Addr} {fd : FuncData} (F : Fun K "enumeration_new" "enumeration_new" s_enumeration_new f fd) : FnOk P w K mg base (L2N.CX P w) 11 f fd ["slots", "args"] (sp_enumeration_new T) := by
  refine SB.okN F sc_enumeration_new len_enumeration_new (fun cdv A outer s H vs Q E hr h => ⟨_, (pss_cons (ps_set (i := 2) sc_enumeration_new.nd rfl (by first | exact Or.inl rfl | exact Or.inr rfl) (SB.pe_cX c_rule_in hr (by decide) rfl (L2N.takes_of rfl rfl rfl rfl) (by exact (pa_cons (pe_slice (SB.kSlL (K := K) rfl) (pv 1) (po_some pe_int) po_none) pa_nil)))) (pss_cons (ps_expr (SB.pe_cX c_check_steps hr (by decide) rfl (L2N.takes_of rfl rfl rfl rfl) (by exact (pa_cons (pe_ix (SB.kIxL (K := K) rfl) (pv 1) pe_int (fun _ _ => rfl)) (pa_cons pe_str (pa_cons (pe_glob (v := .int 4) rfl T.gMOST_LENGTH ⟨_, rfl⟩) pa_nil)))))) (pss_cons (ps_asg (SB.mak m_Enumeration hr (by decide) rfl (pa_cons (pv 2) (pa_cons (pe_ix (SB.kIxL (K := K) rfl) (pv 1) pe_int (fun _ _ => rfl)) pa_nil))) (pg_sub (SB.kFld (K := K) rfl (pv 0) rfl) (pe_ix (SB.kIxL (K := K) rfl) (pv 1) pe_int (fun _ _ => rfl)) set_list)) (pss_one (ps_ret (SB.mak0 m_Nothing hr (by decide) rfl)))))), ?_⟩)
  obtain ⟨s0, aa, l, w, c, I, X, rfl, hW, ⟨avs, hq, hps⟩, hl, hc, hin, q, e⟩ := h
  obtain ⟨x, y, z, u, t, rfl⟩ : ∃ x y z u t, l = [x, y, z, u, t] := by
    match l, hl with
    | [x, y, z, u, t], _ => exact ⟨x, y, z, u, t, rfl⟩
  obtain ⟨k, ek, rfl⟩ : ∃ k, Rust.slotOf 2 x = some k ∧ c = .enumerate k y z u t := by
    have h : Rust.callOf 12 [x, y, z, u, t] = (Rust.slotOf 2 x).bind fun s0 => some (.enumerate s0 y z u t) := rfl
    rw [h] at hc
    cases e1 : Rust.slotOf 2 x with
    | none => rw [e1] at hc; cases hc
    | some k => rw [e1] at hc; exact ⟨k, rfl, (Option.some.inj hc).symm⟩
  obtain ⟨v0, vl, rfl, p0, pl⟩ := args_n1 hps
  obtain ⟨rfl, hk⟩ := slot_inv p0 ek
  obtain ⟨v1, v2, v3, v4, _, evl, p1, p2, p3, p4⟩ := args_four pl
  have er := enum_run (w := w) (k := k) (x := y) (y := z) (z := u) (u := t)
  refine ⟨_, rfl, _, rfl, aa, _, rfl, hq, fun S hS => ?_⟩
  rw [cut_tail]
  have sS : Same H (upd H S (.lst vl)) := same_upd hS
  have hSl : upd H S (.lst vl) S = some (.lst vl) := upd_same
  generalize upd H S (.lst vl) = HS at sS hSl ⊢
  refine ⟨S, y, z, u, [t], I, rfl, ⟨vl, SqL.of hSl, pl.same sS⟩, fun R eR H1 r cd s1 hcd hR => ?_, fun er' ee H' d s' h' => ?_⟩
  · rw [eR] at er
    simp only at er
    have vr := ru_vr p1 p3 eR
    have s01 := sS.trans s1
    have hcd0 : H cd = none := sS.free hcd
    have at4 : atI (intT k :: vl) 4 = some v4 := by
      rw [evl]
      exact atI_nat (j := 4) rfl
    refine ⟨_, rfl, aa, _, 4, v4, rfl, rfl, seq_same s01 hq, at4, v4, t, "maxLength", 4, I, rfl, p4.same s01, .inr ⟨rfl, rfl⟩, fun n en => ?_, fun er' ee H' d s' h' => ?_⟩
    · rw [en] at er
      simp only at er
      rw [er] at q
      have hn : n ≤ 4 ∧ v4 = intT n := by
        obtain ⟨e1, _, e2⟩ := int_at p4 (num_inv en)
        exact ⟨e2, e1⟩
      obtain ⟨hn, rfl⟩ := hn
      refine ⟨_, rfl, _, rfl, aa, _, 4, _, rfl, rfl, seq_same s01 hq, at4, fun xw dx hx hdx nd => ?_⟩
      have sm : Same H1 (upd (upd H1 dx (.own xw)) xw (.ins T.Enumeration dx [])) := fun b u e => by rw [upd_ne (ne_of_none e hx), upd_ne (ne_of_none e hdx)]; exact e
      obtain ⟨dxs, lw, le, ws, es, MW, ME, f⟩ := hW
      have al1 : Al (New I HS H1) H1 := al_new s1 (al_same sS f.al)
      refine ⟨xw, dx, cd, r, R, n, New I HS H1, rfl, upd_same, vr, hn, hR.same sm, al_same sm al1, fun H3 rr c3 nrr E3 => ⟨rfl, ?_⟩⟩
      have hxw0 := s01.free hx
      have s03 : Same H H3 := fun b o eb => c3 b o (sm _ _ (s01 _ _ eb)) fun m => by
        rcases m with m | m
        · rw [m, hxw0] at eb; cases eb
        · rw [m, hcd0] at eb; cases eb
      have q3 : SlE T (New I HS H1) H3 (.ref xw) (some (newEnumeration R.t R.g R.y R.p n)) (fun b => b = xw ∨ b = cd ∨ b = rr) :=
        ⟨xw, cd, rr, R, vr, ⟨false, E3, ⟨rfl, rfl⟩, rfl, rfl, rfl⟩, fun b => Iff.rfl⟩
      have al3 : Al (New I HS H1) H3 := fun b hb z0 => by
        have h1 := al_same sm al1 b hb
        cases e1 : upd (upd H1 dx (.own xw)) xw (.ins T.Enumeration dx []) b with
        | none => exact h1 e1
        | some o =>
          by_cases m : Two xw cd b
          · exact q3.alloc (by rcases m with m | m; exact .inl m; exact .inr (.inl m)) z0
          · rw [c3 _ _ e1 m] at z0; cases z0
      have f4 := f.newE hk s03 (fun b hb => by
        rcases hb with hb | hb | hb
        · rw [hb]; exact hxw0
        · rw [hb]; exact hcd0
        · rw [hb]; exact s01.free (sm.free nrr)) (fun b hb => .inl hb) (fun b hb ni z => by
          rcases z with z | z
          · exact ni z
          · exact hb (sS.free z.1)) al3 q3
      refine ⟨_, rfl, s0, T.Slots, _, _, _, rfl, (s03 _ _ f.f_s), T.clSlots, T.nSlots_enumerations, lkSlots_enumerations, _, rfl, aa, _, 0, _, rfl, rfl, seq_same s03 hq, at0, le, es, _, k, rfl, rfl, s03 _ _ f.f_le, ixN_nat (by rw [f.lenE.1]; exact hk), ?_⟩
      intro x2 dx2 hx2 hdx2 nd2
      refine ⟨x2, dx2, rfl, upd_same, fun H5 en c5 h5 => ⟨rfl, ?_⟩⟩
      have s5 := mk_same hx2 hdx2 c5
      exact q .undef rfl H5 _ (fun _ => False) _ (WoAt.same s5 f4) (.undef h5) (fun _ h => h.elim)
    · rw [ee] at er
      simp only at er
      rw [er] at e
      exact e _ rfl H' I d (hW.same (s01.trans s')) h'
  · rw [ee] at er
    simp only at er
    rw [er] at e
    exact e _ rfl H' I d (hW.same (sS.trans s')) h'

end
end SP

/-! ## SP13 -/
set_option maxHeartbeats 4000000
namespace SP
open PySem PySem.Spec PyProof.Rows L2 SB
section
variable {K : PySem.W.Frag} {mg : Str → Option Value} {T : TX K mg} {I J : Addr → Prop} {H H1 : Hp}
variable {X Y : Addr → HO → Prop} {s : Addr} {w : SWorld}
/-- more lists may be kept, other places be told -/
theorem WoAt.grow (h : WoAt T I X H s w) (sm : Same H H1) (j : ∀ b, I b → J b) (n : ∀ b, H b ≠ none → J b → I b) (al : Al J H1) (y : ∀ b o, Y b o → X b o ∨ (H b = none ∧ H1 b = some o ∧ ¬ J b)) : WoAt T J Y H1 s w := by
  obtain ⟨dx, lw, le, ws, es, MW, ME, f⟩ := h
  have aw : ∀ {j b}, j < 3 → MW j b → H b ≠ none := fun hj n => by
    obtain ⟨u, _, q2⟩ := f.f_w _ hj
    exact q2.alloc n
  have ae : ∀ {j b}, j < 3 → ME j b → H b ≠ none := fun hj n => by
    obtain ⟨u, _, q2⟩ := f.f_e _ hj
    exact q2.alloc n
  refine ⟨dx, lw, le, ws, es, MW, ME, ⟨sm _ _ f.f_s, sm _ _ f.f_lw, sm _ _ f.f_le, f.lenW, f.lenE, ⟨fun z => f.nI.1 (n _ (by rw [f.f_lw]; simp) z), fun z => f.nI.2.1 (n _ (by rw [f.f_le]; simp) z), f.nI.2.2⟩, al, fun i hi => ?_, fun i hi => ?_, f.ww, f.ee, f.we, f.wl, f.el, fun b o z => ?_⟩⟩
  · obtain ⟨v, hv, q⟩ := f.f_w i hi
    exact ⟨v, hv, (q.same sm).mono j⟩
  · obtain ⟨v, hv, q⟩ := f.f_e i hi
    exact ⟨v, hv, (q.same sm).mono j fun b nb z => n b (ae hi nb) z⟩
  · rcases y b o z with z | ⟨z1, z2, z3⟩
    · obtain ⟨x1, x2, x3⟩ := f.x b o z
      exact ⟨sm _ _ x1, fun z => x2 (n b (by rw [x1]; simp) z), x3⟩
    · refine ⟨z2, z3, fun e => ?_, fun e => ?_, fun e => ?_, fun i hi => ⟨fun m => aw hi m z1, fun m => ae hi m z1⟩⟩
      · rw [e, f.f_lw] at z1; cases z1
      · rw [e, f.f_le] at z1; cases z1
      · rw [e, f.f_s] at z1; cases z1
theorem WoAt.xs (h : WoAt T I X H s w) {b : Addr} {o : HO} (z : X b o) : H b = some o := by
  obtain ⟨dx, lw, le, ws, es, MW, ME, f⟩ := h
  exact (f.x b o z).1
theorem WoAt.al (h : WoAt T I X H s w) : Al I H := by
  obtain ⟨dx, lw, le, ws, es, MW, ME, f⟩ := h
  exact f.al
theorem WoAt.slots (h : WoAt T I X H s w) : ∃ dx fs, H s = some (.ins T.Slots dx fs) := by
  obtain ⟨dx, lw, le, ws, es, MW, ME, f⟩ := h
  exact ⟨_, _, f.f_s⟩
theorem WoAt.calls (h : WoAt T I X H s w) (n : Nat) : WoAt T I X H s { w with calls := n } := by
  obtain ⟨dx, lw, le, ws, es, MW, ME, f⟩ := h
  exact ⟨dx, lw, le, ws, es, MW, ME, ⟨f.f_s, f.f_lw, f.f_le, f.lenW, f.lenE, f.nI, f.al, f.f_w, f.f_e, f.ww, f.ee, f.we, f.wl, f.el, f.x⟩⟩
/-- a list that is told may be written -/
theorem WoAt.put {L : Addr} {xs ys : List V} (h : WoAt T I X H s w) (x : X L (.lst xs)) (y : ∀ b o, Y b o → (b ≠ L ∧ X b o) ∨ (b = L ∧ o = .lst ys)) : WoAt T I Y (upd H L (.lst ys)) s w := by
  obtain ⟨dx, lw, le, ws, es, MW, ME, f⟩ := h
  obtain ⟨x1, x2, x3, x4, x5, x6⟩ := f.x _ _ x
  have oR : OffR T (· = L) I H := offS x1 x2
  have c2 : Chg (· = L) H (upd H L (.lst ys)) := chg1
  refine ⟨dx, lw, le, ws, es, MW, ME, ⟨c2 _ _ f.f_s x5.symm, c2 _ _ f.f_lw x3.symm, c2 _ _ f.f_le x4.symm, f.lenW, f.lenE, f.nI, fun b hb z => f.al b hb (free_upd z), fun i hi => ?_, fun i hi => ?_, f.ww, f.ee, f.we, f.wl, f.el, fun b o z => ?_⟩⟩
  · obtain ⟨v, hv, q⟩ := f.f_w i hi
    exact ⟨v, hv, q.off oR (fun b nb m => (x6 i hi).1 (m ▸ nb)) c2⟩
  · obtain ⟨v, hv, q⟩ := f.f_e i hi
    exact ⟨v, hv, q.off oR (fun b nb m => (x6 i hi).2 (m ▸ nb)) c2⟩
  · rcases y b o z with ⟨z1, z2⟩ | ⟨z1, z2⟩
    · obtain ⟨y1, y2⟩ := f.x b o z2
      exact ⟨c2 _ _ y1 z1, y2⟩
    · subst z1 z2
      exact ⟨upd_same, x2, x3, x4, x5, x6⟩
end
section
variable {K : PySem.W.Frag} {mg : Str → Option Value} (T : TX K mg)
def sp_Slots___init__ : Sp := fun vs H Q _ => ∃ (x dx : Addr), vs = [.ref x] ∧ H x = some (.ins T.Slots dx []) ∧ ∀ (H' : Hp), Chg (· = x) H H' → (∀ X : Addr → HO → Prop, (∀ b o, X b o → H b = some o ∧ b ≠ x) → WoAt T (fun _ => False) X H' x R7244e.Spec.World.start) → Q .non H'
def sp_answer_of : Sp := fun vs H Q _ => ∃ (s o : Addr) (os : List UInt8) (w : SWorld) (c : R7244e.Spec.Call) (I : Addr → Prop) (X : Addr → HO → Prop), vs = [.ref s, .ref o] ∧ WoAt T I X H s w ∧ H o = some (.lst (os.map octT)) ∧ os.length ≤ 61000 ∧ Rust.asked os = some c ∧ R7244e.Spec.input w c = true ∧ Rust.tellable (R7244e.Spec.runCall w c).2 = true ∧ (RWire.writeAnswer (Rust.answerOf (R7244e.Spec.runCall w c).2)).length ≤ 65536 ∧
  ∀ (H' : Hp) (I' : Addr → Prop) (D : Addr), WoAt T I' X H' s (R7244e.Spec.runCall w c).1 → H' D = some (.lst ((RWire.writeAnswer (Rust.answerOf (R7244e.Spec.runCall w c).2)).map octT)) → (∀ b o, X b o → b ≠ D) → Q (.ref D) H'
end
end SP

/-! ## E14 -/
set_option maxHeartbeats 4000000
namespace SP
open PySem PySem.Spec PyProof.Rows L2 SB
open SS (VC VG R Sz RateOk treeW ratesOf leadsTo)
open R7244e.Spec (reachable recurrentStates hasOneClass canMeet distribution wordProb endState coverage separation unstopped stopProbs survival entry target)
section
variable {P : Program} {w : World} {base : Heap}
variable {K : PySem.W.Frag} {mg : Str → Option Value}

abbrev s_Slots___init__ : Stmt := inClass (topS 49) 0
theorem sc_Slots___init__ : FnScope ["self"] ["self"] (defScope s_Slots___init__) := SB.sc_by (by decide +kernel)
theorem len_Slots___init__ {T : TX K mg} : ∀ vs H Q E, sp_Slots___init__ T vs H Q E → vs.length = (["self"] : List Str).length := by
  rintro _ H Q E ⟨_, _, rfl, _⟩
  rfl
theorem ok_Slots___init__ (T : TX K mg)   {f : Addr} {fd : FuncData} (F : Fun K "__init__" "Slots.__init__" s_Slots___init__ f fd) : FnOk P w K mg base CX0 1 f fd ["self"] (sp_Slots___init__ T) := by
  refine F.ok sc_Slots___init__ len_Slots___init__ (fun cdv A outer s H vs Q E hr h => ⟨_, (pss_cons (ps_fld (pv 0) (pe_lst (pa_cons pe_non (pa_cons pe_non (pa_cons pe_non pa_nil)))) rfl) (pss_one (ps_fld (pv 0) (pe_lst (pa_cons pe_non (pa_cons pe_non (pa_cons pe_non pa_nil)))) rfl))), ?_⟩)
  obtain ⟨x, dx, rfl, hx, q⟩ := h
  refine ⟨le_line (by show 3 ≤ _; decide), fun L hL => ?_⟩
  have s1 : Same H (upd H L (.lst [.non, .non, .non])) := same_upd hL
  have h1L : upd H L (.lst [.non, .non, .non]) L = some (.lst [.non, .non, .non]) := upd_same
  generalize upd H L (.lst [.non, .non, .non]) = H1 at s1 h1L ⊢
  refine ⟨_, rfl, x, T.Slots, dx, [], rfl, s1 _ _ hx, T.clSlots, T.nSlots_walks, (show 0 < 1000 by decide), ?_⟩
  rw [pnSlots_walks]
  have c2 : Chg (· = x) H1 (upd H1 x (.ins T.Slots dx [("walks", .ref L)])) := chg1
  have h2x : upd H1 x (.ins T.Slots dx [("walks", .ref L)]) x = some (.ins T.Slots dx [("walks", .ref L)]) := upd_same
  have nLx : L ≠ x := fun z => by rw [z, hx] at hL; cases hL
  have b2 : ∀ b, upd H1 x (.ins T.Slots dx [("walks", .ref L)]) b = none → H1 b = none := fun b h => free_upd h
  generalize upd H1 x (.ins T.Slots dx [("walks", .ref L)]) = H2 at c2 h2x b2 ⊢
  have h2L := c2 _ _ h1L nLx
  refine ⟨le_line (by show 3 ≤ _; decide), fun L3 hL3 => ?_⟩
  have s3 : Same H2 (upd H2 L3 (.lst [.non, .non, .non])) := same_upd hL3
  have h3L : upd H2 L3 (.lst [.non, .non, .non]) L3 = some (.lst [.non, .non, .non]) := upd_same
  generalize upd H2 L3 (.lst [.non, .non, .non]) = H3 at s3 h3L ⊢
  have n3x : L3 ≠ x := fun z => by rw [z, h2x] at hL3; cases hL3
  have n3L : L3 ≠ L := fun z => by rw [z, h2L] at hL3; cases hL3
  refine ⟨_, rfl, x, T.Slots, dx, _, rfl, s3 _ _ h2x, T.clSlots, T.nSlots_enumerations, (show 1 < 1000 by decide), ?_⟩
  rw [pnSlots_enumerations]
  have c4 : Chg (· = x) H3 (upd H3 x (.ins T.Slots dx [("walks", .ref L), ("enumerations", .ref L3)])) := chg1
  have h4x : upd H3 x (.ins T.Slots dx [("walks", .ref L), ("enumerations", .ref L3)]) x = some (.ins T.Slots dx [("walks", .ref L), ("enumerations", .ref L3)]) := upd_same
  generalize upd H3 x (.ins T.Slots dx [("walks", .ref L), ("enumerations", .ref L3)]) = H4 at c4 h4x ⊢
  have c04 : Chg (· = x) H H4 := ((Chg.of_same s1).trans c2).trans ((Chg.of_same s3).trans c4)
  have non3 : ∀ i, i < 3 → ([V.non, .non, .non] : List V)[i]? = some .non := fun i hi => by
    match i, hi with
    | 0, _ => rfl
    | 1, _ => rfl
    | 2, _ => rfl
  have w3 : ∀ i, i < 3 → R7244e.Spec.walkerAt R7244e.Spec.World.start i = none := fun i hi => by
    match i, hi with
    | 0, _ => rfl
    | 1, _ => rfl
    | 2, _ => rfl
  have e3 : ∀ i, i < 3 → R7244e.Spec.enumerationAt R7244e.Spec.World.start i = none := fun i hi => by
    match i, hi with
    | 0, _ => rfl
    | 1, _ => rfl
    | 2, _ => rfl
  refine q H4 c04 fun X hX => ⟨dx, L, L3, [.non, .non, .non], [.non, .non, .non], fun _ _ => False, fun _ _ => False, ?_⟩
  exact {
    f_s := h4x
    f_lw := c4 _ _ (s3 _ _ h2L) nLx
    f_le := c4 _ _ h3L n3x
    lenW := ⟨rfl, rfl⟩
    lenE := ⟨rfl, rfl⟩
    nI := ⟨fun z => z, fun z => z, fun z => n3L z.symm⟩
    al := fun b hb => hb.elim
    f_w := fun i hi => ⟨_, non3 i hi, by rw [w3 i hi]; exact ⟨rfl, fun _ z => z⟩⟩
    f_e := fun i hi => ⟨_, non3 i hi, by rw [e3 i hi]; exact ⟨rfl, fun _ z => z⟩⟩
    ww := fun i j b h _ => h.elim
    ee := fun i j b h _ => h.elim
    we := fun i j b h _ => h
    wl := fun i b h => h.elim
    el := fun i b h => h.elim
    x := fun b o z => by
      obtain ⟨x1, x2⟩ := hX b o z
      refine ⟨c04 _ _ x1 x2, fun z => z, fun e => ?_, fun e => ?_, x2, fun i hi => ⟨fun z => z, fun z => z⟩⟩
      · rw [e, hL] at x1; cases x1
      · have := s1.free (b2 _ hL3)
        rw [e, this] at x1; cases x1 }

end
end SP

/-! ## H1 -/
set_option maxHeartbeats 4000000
namespace SP
open PySem PySem.Spec PyProof.Rows L2 SB
open SS (VC VG R Sz RateOk treeW ratesOf leadsTo)
open R7244e.Spec (reachable recurrentStates hasOneClass canMeet distribution wordProb endState coverage separation unstopped stopProbs survival entry target)
section
variable {P : Program} {w : World} {base : Heap}
variable {K : PySem.W.Frag} {mg : Str → Option Value}

theorem hk_octets_of (T : TX K mg)   {f : Addr} {fd : FuncData} (F : Fun K "octets_of" "octets_of" s_octets_of f fd) : L2H.FnH P w K mg base CX0 1 f fd ["word"] (sp_octets_of T) := by
  obtain ⟨oc, od, kV, doc, pm, an, cdv, ct, osl, rfl, lk, hcd⟩ := F.ex
  refine L2H.fn_ofH lk hcd sc_octets_of len_octets_of (fun A outer s H vs Q E p hotp hr h => ⟨_, (pss_one (ps_ret (SBH.pe_lcH (own := [("sign", 1)]) (g := (gName 1)) (tt := tYes) (⟨p, hotp, List.mem_cons_self⟩ : L2H.HotC _) sc_octets_of.nd (SBH.pi_strH (pv 0)) (blkOk_by (own := [("sign", 1)]) (N := ["word", "sign"]) (sc := (defScope s_octets_of)) (by decide +kernel)) (fun _ _ _ _ _ _ => (pg_name (i := 1) sc_octets_of.nd rfl (by first | exact Or.inl rfl | exact Or.inr rfl))) (fun _ _ _ _ _ _ => pts_nil) (fun _ _ _ _ _ _ => (pe_callB call_ord (by rfl) T.b_ord (by decide +kernel) (pa_cons (pv 1) pa_nil)))))), ?_⟩)
  obtain ⟨s0, rfl, ha, hz, q⟩ := h
  refine ⟨_, rfl, s0, rfl, ?_, fun D hD => ?_⟩
  · rw [Array.all_eq_true']
    intro c hc
    exact decide_eq_true (ha c (by simpa using hc))
  refine lc_it (walk_str (z := s0)) (fun j H3 => Same H H3 ∧ H3 D = some (.lst ((s0.cps.toList.take j).map fun (c : Nat) => intT c))) ⟨same_upd hD, upd_same⟩ (fun _ _ _ _ => trivial) ?_ ?_
  · rintro j x H3 H4 hj ⟨s3, h3⟩ ⟨rfl, c, hc, rfl⟩
    have hc : s0.cps.toList[j]? = some c := by simpa using hc
    refine ⟨rfl, lcYes ⟨_, rfl, ⟨#[c]⟩, rfl, rfl, _, h3, ?_, same_upd2 s3 hD, ?_⟩⟩
    · rw [List.length_map, List.length_take]
      exact lt_line (by omega)
    · rw [upd_same, take_map_succ hc]
      rfl
  · rintro H3 ⟨s3, h3⟩
    rw [List.take_of_length_le (by simp)] at h3
    exact q H3 D s3 hD h3
theorem hk_number_out (T : TX K mg)   {f : Addr} {fd : FuncData} (F : Fun K "number_out" "number_out" s_number_out f fd) : L2H.FnH P w K mg base CX0 1 f fd ["number", "many"] (sp_number_out T) := by
  obtain ⟨oc, od, kV, doc, pm, an, cdv, ct, osl, rfl, lk, hcd⟩ := F.ex
  refine L2H.fn_ofH lk hcd sc_number_out len_number_out (fun A outer s H vs Q E p hotp hr h => ⟨_, (pss_cons (ps_set (i := 2) sc_number_out.nd rfl (by first | exact Or.inl rfl | exact Or.inr rfl) (pe_lst pa_nil)) (pss_cons (L2H.ps_forH (by first | exact PassesOwn.never | exact passes_of rfl) (⟨p, hotp, List.mem_cons_self⟩ : L2H.HotC _) (L2H.pi_range1H (by rfl) T.b_range (pa_cons (pv 1) pa_nil)) (pg_name (i := 3) sc_number_out.nd rfl (by first | exact Or.inl rfl | exact Or.inr rfl)) (pss_cons (ps_expr (pe_bm PySem.F.plainAttrs_list PySem.F.slot_list_append PySem.F.type_list_append mt_append (pv 2) (pa_cons (pe_op op_mod (pv 0) pe_int) pa_nil))) (pss_one (ps_set (i := 0) sc_number_out.nd rfl (by first | exact Or.inl rfl | exact Or.inr rfl) (pe_op op_fdiv (pv 0) pe_int))))) (pss_one (ps_ret (pv 2))))), ?_⟩)
  obtain ⟨n, many, rfl, hm, q⟩ := h
  refine ⟨le_line (by show 0 ≤ _; decide), fun D hD => ⟨_, rfl, _, rfl, by omega, by omega, ?_⟩⟩
  have en : (((many : Nat) : Int)).toNat = many := Int.toNat_natCast many
  rw [en]
  refine for_range (lo := 0) (n := many) (fun k σ H' => ∃ o : Option V, σ = [some (intT (n / 256 ^ k)), some (intT many), some (.ref D), o] ∧ Same H H' ∧ H' D = some (.lst ((RWire.low k n).map octT)))
    ⟨none, by rw [Nat.pow_zero, Nat.div_one]; rfl, same_upd hD, upd_same⟩ ?_ ?_
  · rintro k σ H2 hk ⟨o, rfl, s2, h2⟩
    refine ⟨_, rfl, .inl ⟨rfl, _, SqL.of h2⟩, _, rfl, _, _, rfl, rfl, (show (0 : Int) < 256 by decide), D, _, _, rfl, rfl, h2, ?_, _, rfl, _, _, rfl, rfl, ⟨by decide, by decide⟩, some (V.int ((0 : Int) + (k : Nat))), ?_, same_upd2 s2 hD, ?_⟩
    · rw [List.length_map, low_len]
      exact lt_line (by omega)
    · rw [Nat.pow_succ, ← Nat.div_div_eq_div_mul]
      rfl
    · rw [upd_same, low_succ, List.map_append, List.map_singleton, octT_ofNat]
      rfl
  · rintro σ H2 ⟨o, rfl, s2, h2⟩
    exact ⟨_, rfl, q H2 D s2 hD h2⟩
theorem hk_text_out (T : TX K mg) (h_number_out : SB.CalH P w K mg base 1 "number_out" (sp_number_out T))  {f : Addr} {fd : FuncData} (F : Fun K "text_out" "text_out" s_text_out f fd) : L2H.FnH P w K mg base CX0 2 f fd ["octets"] (sp_text_out T) := by
  obtain ⟨oc, od, kV, doc, pm, an, cdv, ct, osl, rfl, lk, hcd⟩ := F.ex
  refine L2H.fn_ofH lk hcd sc_text_out len_text_out (fun A outer s H vs Q E p hotp hr h => ⟨_, (pss_one (ps_ret (pe_op op_cat (SB.calH h_number_out hr (by decide) (⟨p, hotp, List.mem_cons_self⟩ : L2H.HotC _) rfl (pa_cons (pe_callB (SB.kLen (K := K) rfl) (by rfl) T.b_len PySem.boot_len (pa_cons (pv 0) pa_nil)) (pa_cons pe_int pa_nil))) (pe_callTy (SB.kListOf (K := K) rfl) (by rfl) T.b_list (by decide +kernel) (pa_cons (pv 0) pa_nil))))), ?_⟩)
  obtain ⟨a, os, rfl, ha, hl, q⟩ := h
  have lm : (os.map octT).length = os.length := List.length_map _
  refine ⟨_, rfl, a, _, rfl, ha, os.length, 4, by rw [lm]; rfl, by decide, fun H1 D1 s1 n1 h1 => ⟨_, rfl, a, _, rfl, ha.imp (Same.seq s1) (same_tup s1), fun D2 h2 => ⟨D1, D2, _, _, rfl, rfl, upd_keep h1 h2, upd_same, ?_, fun D3 h3 => ?_⟩⟩⟩
  · rw [lm, List.length_map, low_len]
    exact le_line (by omega)
  · refine q _ D3 (same_upd2 (same_upd2 s1 (s1.free h2)) (s1.free (free_upd h3))) (s1.free (free_upd h3)) ?_
    rw [upd_same, ← List.map_append]
    rfl

end
end SP

/-! ## P1 -/
set_option maxHeartbeats 4000000
/-! The plain law of the arguments: an argument that is not given is nothing. -/
namespace SP
open Rust (callOf calls0 calls1 taking argAt slotAt)
theorem argAt_pad {l : List Plain} {i : Nat} : argAt (l ++ [.undef]) i = argAt l i := by
  unfold argAt
  rw [List.getD_eq_getElem?_getD, List.getD_eq_getElem?_getD]
  by_cases h : i < l.length
  · rw [List.getElem?_append_left h]
  · rw [List.getElem?_append_right (by omega), List.getElem?_eq_none (l := l) (by omega)]
    cases e : i - l.length with
    | zero => rfl
    | succ n => rw [List.getElem?_eq_none (by simp)]
theorem slotAt_pad {l : List Plain} {i last : Nat} : slotAt (l ++ [.undef]) i last = slotAt l i last := by
  unfold slotAt
  rw [argAt_pad]
theorem taking_len {n : Nat} {l : List Plain} {c : Option R7244e.Spec.Call} {x : R7244e.Spec.Call} (h : taking n l c = some x) : l.length ≤ n := by
  unfold taking at h
  by_cases z : Nat.ble l.length n = true
  · exact Nat.le_of_ble_eq_true z
  · rw [if_neg z] at h
    cases h
theorem taking_pad {n : Nat} {l : List Plain} {c c' : Option R7244e.Spec.Call} {x : R7244e.Spec.Call} (h : taking n l c = some x) (hl : l.length < n) (e : c' = c) : taking n (l ++ [.undef]) c' = some x := by
  have z := taking_len h
  unfold taking at h ⊢
  rw [if_pos (Nat.ble_eq_true_of_le z)] at h
  rw [if_pos (Nat.ble_eq_true_of_le (by rw [List.length_append]; exact hl)), e, h]
theorem door_lt {d : Nat} {l : List Plain} {c : R7244e.Spec.Call} (h : callOf d l = some c) : d < 19 := by
  unfold callOf at h
  split at h
  · omega
  · unfold calls1 at h
    split at h
    · omega
    · omega
    · omega
    · cases h
  · cases h
theorem call_len : ∀ {d : Nat} {l : List Plain} {c : R7244e.Spec.Call}, callOf d l = some c → l.length ≤ sizes.getD d 0
  | 0, l, c, h => taking_len (n := 2) h
  | 1, l, c, h => taking_len (n := 4) h
  | 2, l, c, h => taking_len (n := 1) h
  | 3, l, c, h => taking_len (n := 4) h
  | 4, l, c, h => taking_len (n := 4) h
  | 5, l, c, h => taking_len (n := 4) h
  | 6, l, c, h => taking_len (n := 4) h
  | 7, l, c, h => taking_len (n := 4) h
  | 8, l, c, h => taking_len (n := 2) h
  | 9, l, c, h => taking_len (n := 2) h
  | 10, l, c, h => taking_len (n := 2) h
  | 11, l, c, h => taking_len (n := 1) h
  | 12, l, c, h => taking_len (n := 5) h
  | 13, l, c, h => taking_len (n := 2) h
  | 14, l, c, h => taking_len (n := 2) h
  | 15, l, c, h => taking_len (n := 2) h
  | 16, l, c, h => taking_len (n := 1) h
  | 17, l, c, h => taking_len (n := 3) h
  | 18, l, c, h => taking_len (n := 1) h
  | d + 19, l, c, h => by have := door_lt h; omega
theorem call_pad : ∀ {d : Nat} {l : List Plain} {c : R7244e.Spec.Call}, callOf d l = some c → l.length < sizes.getD d 0 → callOf d (l ++ [.undef]) = some c
  | 0, l, c, h, hl => taking_pad (n := 2) h hl (by simp only [argAt_pad, slotAt_pad])
  | 1, l, c, h, hl => taking_pad (n := 4) h hl (by simp only [argAt_pad, slotAt_pad])
  | 2, l, c, h, hl => taking_pad (n := 1) h hl (by simp only [argAt_pad, slotAt_pad])
  | 3, l, c, h, hl => taking_pad (n := 4) h hl (by simp only [argAt_pad, slotAt_pad])
  | 4, l, c, h, hl => taking_pad (n := 4) h hl (by simp only [argAt_pad, slotAt_pad])
  | 5, l, c, h, hl => taking_pad (n := 4) h hl (by simp only [argAt_pad, slotAt_pad])
  | 6, l, c, h, hl => taking_pad (n := 4) h hl (by simp only [argAt_pad, slotAt_pad])
  | 7, l, c, h, hl => taking_pad (n := 4) h hl (by simp only [argAt_pad, slotAt_pad])
  | 8, l, c, h, hl => taking_pad (n := 2) h hl (by simp only [argAt_pad, slotAt_pad])
  | 9, l, c, h, hl => taking_pad (n := 2) h hl (by simp only [argAt_pad, slotAt_pad])
  | 10, l, c, h, hl => taking_pad (n := 2) h hl (by simp only [argAt_pad, slotAt_pad])
  | 11, l, c, h, hl => taking_pad (n := 1) h hl (by simp only [argAt_pad, slotAt_pad])
  | 12, l, c, h, hl => taking_pad (n := 5) h hl (by simp only [argAt_pad, slotAt_pad])
  | 13, l, c, h, hl => taking_pad (n := 2) h hl (by simp only [argAt_pad, slotAt_pad])
  | 14, l, c, h, hl => taking_pad (n := 2) h hl (by simp only [argAt_pad, slotAt_pad])
  | 15, l, c, h, hl => taking_pad (n := 2) h hl (by simp only [argAt_pad, slotAt_pad])
  | 16, l, c, h, hl => taking_pad (n := 1) h hl (by simp only [argAt_pad, slotAt_pad])
  | 17, l, c, h, hl => taking_pad (n := 3) h hl (by simp only [argAt_pad, slotAt_pad])
  | 18, l, c, h, hl => taking_pad (n := 1) h hl (by simp only [argAt_pad, slotAt_pad])
  | d + 19, l, c, h, hl => by have := door_lt h; omega
theorem asked_inv {os : List UInt8} {c : R7244e.Spec.Call} (h : Rust.asked os = some c) : ∃ d l, RWire.readRequest os = some (d, l) ∧ Rust.ofKinds l = true ∧ callOf d (Rust.takenAll l) = some c := by
  unfold Rust.asked at h
  cases e : RWire.readRequest os with
  | none => rw [e] at h; cases h
  | some p =>
    obtain ⟨d, l⟩ := p
    rw [e] at h
    have h : (if Rust.ofKinds l = true then callOf d (Rust.takenAll l) else none) = some c := h
    by_cases k : Rust.ofKinds l = true
    · rw [if_pos k] at h
      exact ⟨d, l, rfl, k, h⟩
    · rw [if_neg k] at h
      cases h
end SP

/-! ## E15 -/
set_option maxHeartbeats 4000000
namespace SP
open PySem PySem.Spec PyProof.Rows L2 SB
open SS (VC VG R Sz RateOk treeW ratesOf leadsTo)
open R7244e.Spec (reachable recurrentStates hasOneClass canMeet distribution wordProb endState coverage separation unstopped stopProbs survival entry target)
section
variable {P : Program} {w : World} {base : Heap}
variable {K : PySem.W.Frag} {mg : Str → Option Value}

theorem takes0N {X : Cx} : L2N.Takes X (fun _ _ _ _ => False) := fun _ _ x => by
  obtain ⟨_, _, _, _, _, _, _, _, _, _, _, _, _, _, _, _, z⟩ := x
  exact z.elim
theorem hot_of {X : Cx} {a : Addr} {oe : Obj} {cls : Value} {d : Option Addr} {pn : List (Addr × Obj)} (hz : L2N.Zn cls d oe) (hf : ∃ vs, oe.data = .fields vs) : L2H.HotC (X.suite a ((a, oe) :: pn)) := by
  obtain ⟨vs, h⟩ := hf
  exact ⟨(a, oe), ⟨rfl, vs, h, hz.2.2 vs h⟩, List.mem_cons_self⟩
/-- the doors, each with its promise -/
def DoorS (T : TX K mg) : Addr → Sp → Prop := fun f sp => ∃ d, d < 19 ∧ f = T.door d ∧ sp = sp_door T d
abbrev s_answer_of : Stmt := topS 81
theorem sc_answer_of : FnScope ["slots", "octets", "door", "args", "deed", "refused"] ["slots", "octets"] (defScope s_answer_of) := SB.sc_by (by decide +kernel)
theorem len_answer_of {T : TX K mg} : ∀ vs H Q E, sp_answer_of T vs H Q E → vs.length = (["slots", "octets"] : List Str).length := by
  rintro _ H Q E ⟨_, _, _, _, _, _, _, rfl, _⟩
  rfl
theorem ok_answer_of (T : TX K mg) (TF : TR T) (c_read_request : SB.Cal P w K mg base 61 "read_request" (sp_read_request T)) (c_value_out : SB.Cal P w K mg base 60 "value_out" (sp_value_out T)) (m_Nothing : SB.Mak P w K mg base 1 "Nothing" T.Nothing (sp_Nothing___init__ T)) (hHeld : ∀ f sp, DoorS T f sp → SB.HeldD P w K mg base 20 f sp)
    (h_octets_of : SB.CalH P w K mg base 1 "octets_of" (sp_octets_of T)) (h_text_out : SB.CalH P w K mg base 2 "text_out" (sp_text_out T)) {f : Addr} {fd : FuncData} (F : Fun K "answer_of" "answer_of" s_answer_of f fd) : FnOk P w K mg base CX0 80 f fd ["slots", "octets"] (sp_answer_of T) := by
  refine F.ok sc_answer_of len_answer_of (fun cdv A outer s H vs Q E hr h => ⟨_, (pss_cons (ps_asg (SB.cal c_read_request hr (by decide) rfl (pa_cons (pv 1) pa_nil)) (pg_tup (by rfl) (pgs_cons (pg_name (i := 2) sc_answer_of.nd rfl (by first | exact Or.inl rfl | exact Or.inr rfl)) (pgs_cons (pg_name (i := 3) sc_answer_of.nd rfl (by first | exact Or.inl rfl | exact Or.inr rfl)) pgs_nil)))) (pss_cons (ps_while (by first | exact PassesOwn.never | exact passes_of rfl) (pt_cmpR op_lt (pe_callB (SB.kLen (K := K) rfl) (by rfl) T.b_len PySem.boot_len (pa_cons (pv 3) pa_nil)) (pe_ix (SB.kIxT (K := K) rfl) (pe_glob (v := .ref T.SIZES) rfl T.gSIZES rfl) (pv 2) (fun _ _ => rfl)) (nomark _)) (pss_one (ps_expr (pe_bm PySem.F.plainAttrs_list PySem.F.slot_list_append PySem.F.type_list_append mt_append (pv 3) (pa_cons (SB.mak0 m_Nothing hr (by decide) rfl) pa_nil))))) (pss_cons (ps_set (i := 4) sc_answer_of.nd rfl (by first | exact Or.inl rfl | exact Or.inr rfl) (pe_ix (SB.kIxT (K := K) rfl) (pe_glob (v := .ref T.DOORS) rfl T.gDOORS rfl) (pv 2) (fun _ _ => rfl))) (pss_one (L2N.ps_try_as (i := 5) rfl rfl sc_answer_of.nd rfl rfl ⟨rfl, by decide, .inl T.gRefused⟩ takes0N (fun W pn xe tk po => pss_one (ps_ret (pe_op op_cat (pe_lst (pa_cons pe_int pa_nil)) (SB.cal c_value_out hr (by decide) rfl (pa_cons (SB.pe_callD (i := 4) hHeld (hr.mono (by decide)) (by rfl) (by first | exact Or.inl rfl | exact Or.inr (Or.inl rfl)) (fun σ => L2N.passAt tk σ) (pa_cons (pv 0) (pa_cons (pv 3) pa_nil))) pa_nil))))) (fun a oe cls d pn hz hf => pss_one (ps_ret (pe_op op_cat (pe_lst (pa_cons pe_int (pa_cons (pe_xf TF.xf TF.nk hz.zc hf (pv 5)) pa_nil))) (SB.calH (j := 79) h_text_out ⟨hr.dp, hr.un⟩ (by decide) (hot_of hz hf) rfl (pa_cons (SB.calH (j := 79) h_octets_of ⟨hr.dp, hr.un⟩ (by decide) (hot_of hz hf) rfl (pa_cons (pe_xf TF.xf TF.nm hz.zc hf (pv 5)) pa_nil)) pa_nil)))))))))), ?_⟩)
  obtain ⟨s0, o, os, w, c, I, X, rfl, hW, ho, hl, ea, hin, htl, hlen, q⟩ := h
  obtain ⟨d, l, er, ek, hc⟩ := asked_inv ea
  have hd := door_lt hc
  have hm := call_len hc
  refine ⟨_, rfl, o, os, d, l, rfl, ho, hl, er, ek, fun H1 p aa avs s1 hp naa haa pls => ⟨p, _, rfl, hp, rfl, _, _, rfl, _, _, rfl, rfl, ?_⟩⟩
  have szd : (sizes.map fun (n : Nat) => V.int n)[d]? = some (V.int (sizes.getD d 0 : Nat)) := by
    rw [List.getElem?_map, List.getD_eq_getElem?_getD]
    rw [List.getElem?_eq_getElem (show d < sizes.length from hd)]
    rfl
  have sz5 : sizes.getD d 0 ≤ 5 := by
    have : ∀ i, i < 19 → sizes.getD i 0 ≤ 5 := by decide
    exact this d hd
  refine ⟨fun m σ H' => ∃ (lk : List Plain) (avk : List V), σ = [some (.ref s0), some (.ref o), some (intT d), some (.ref aa), none, none] ∧ Same H H' ∧ H' aa = some (.lst avk) ∧ PlsAt T (fun b => FreshA H H' b ∧ b ≠ aa) H' false avk lk ∧ Rust.callOf d lk = some c ∧ lk.length + m = sizes.getD d 0,
    ⟨sizes.getD d 0 - (Rust.takenAll l).length, Rust.takenAll l, avs, rfl, s1, haa, pls, hc, by omega⟩, ?_⟩
  rintro m σ H2 ⟨lk, avk, rfl, s2, h2, p2, hck, hmk⟩
  have lenk := p2.len
  refine ⟨_, rfl, aa, _, rfl, .inl (SqL.of h2), _, rfl, T.SIZES, _, (d : Nat), _, rfl, rfl, T.hSIZES H2, atI_nat szd, _, _, rfl, rfl, _, rfl, ?_⟩
  have et : decide (((avk.length : Nat) : Int) < ((sizes.getD d 0 : Nat) : Int)) = decide (avk.length < sizes.getD d 0) := by
    rw [decide_eq_decide]
    omega
  refine ite2 (fun cw => ?_) (fun cw => ?_)
  · have cw : avk.length < sizes.getD d 0 := of_decide_eq_true (et ▸ cw)
    refine ⟨fun σ' H' => ∃ m', m' < m ∧ ∃ (lk : List Plain) (avk : List V), σ' = [some (.ref s0), some (.ref o), some (intT d), some (.ref aa), none, none] ∧ Same H H' ∧ H' aa = some (.lst avk) ∧ PlsAt T (fun b => FreshA H H' b ∧ b ≠ aa) H' false avk lk ∧ Rust.callOf d lk = some c ∧ lk.length + m' = sizes.getD d 0, fun σ' H' h => h, _, rfl, .inl ⟨rfl, _, SqL.of h2⟩, ?_⟩
    intro x dx hx hdx nd
    refine ⟨x, dx, rfl, upd_same, fun H3 en c3 h3 => ⟨rfl, ?_⟩⟩
    have s23 := mk_same hx hdx c3
    have h3a := s23 _ _ h2
    refine ⟨aa, avk, _, rfl, rfl, h3a, lt_line (by omega), m - 1, by omega, lk ++ [.undef], avk ++ [.ref x], rfl, same_upd2 (s2.trans s23) naa, upd_same, ?_, call_pad hck (by omega), by rw [List.length_append]; show lk.length + 1 + (m - 1) = _; omega⟩
    have p3 : PlsAt T (fun b => FreshA H H3 b ∧ b ≠ aa) H3 false (avk ++ [.ref x]) (lk ++ [.undef]) := ((p2.same s23).mono fun b hb => ⟨⟨hb.1.1, fun z => hb.1.2 (s23.free z)⟩, hb.2⟩).snoc (.undef h3)
    exact PlsAt.keep (keeps_upd h3a (fun b hb => ⟨⟨hb.1.1, fun z => hb.1.2 (free_upd z)⟩, hb.2⟩) (fun b hb => hb.2)) (fun z => z) p3
  · have cw : ¬ avk.length < sizes.getD d 0 := fun z => cw (et ▸ decide_eq_true z)
    have lks : lk.length = sizes.getD d 0 := by omega
    have dat : (List.map (fun i => V.ref (T.door i)) (List.range 19))[d]? = some (V.ref (T.door d)) := by
      rw [List.getElem?_map, List.getElem?_range hd]
      rfl
    refine ⟨_, rfl, T.DOORS, _, (d : Nat), _, rfl, rfl, T.hDOORS H2, atI_nat dat, le_line (by show 1 ≤ _; decide), fun L0 hL0 => ?_⟩
    have s23 : Same H2 (upd H2 L0 (.lst [.int 0])) := same_upd hL0
    have h3L : upd H2 L0 (.lst [.int 0]) L0 = some (.lst [.int 0]) := upd_same
    generalize upd H2 L0 (.lst [.int 0]) = H3 at s23 h3L ⊢
    have s03 := s2.trans s23
    have h3a := s23 _ _ h2
    have nL0 : H L0 = none := s2.free hL0
    have nLa : L0 ≠ aa := fun z => by rw [z, h2] at hL0; cases hL0
    have W3 : WoAt T (fun b => I b ∨ (FreshA H H3 b ∧ b ≠ aa ∧ b ≠ L0)) (fun b u => X b u ∨ (b = L0 ∧ u = .lst [.int 0])) H3 s0 w := by
      refine hW.grow s03 (fun b hb => .inl hb) (fun b nb hb => ?_) (fun b hb => ?_) (fun b u hb => ?_)
      · rcases hb with hb | hb
        · exact hb
        · exact absurd hb.1.1 nb
      · rcases hb with hb | hb
        · exact al_same s03 hW.al b hb
        · exact hb.1.2
      · rcases hb with hb | ⟨rfl, rfl⟩
        · exact .inl hb
        · exact .inr ⟨nL0, h3L, fun z => by
            rcases z with z | z
            · exact hW.al _ z nL0
            · exact z.2.2 rfl⟩
    have p3 : PlsAt T (fun b => I b ∨ (FreshA H H3 b ∧ b ≠ aa ∧ b ≠ L0)) H3 false avk lk := (p2.same s23).mono fun b hb => .inr ⟨⟨hb.1.1, fun z => hb.1.2 (s23.free z)⟩, hb.2, fun z => hb.1.2 (z ▸ hL0)⟩
    refine ⟨T.door d, sp_door T d, rfl, ⟨d, hd, rfl, rfl⟩, _, rfl, _, rfl, s0, aa, lk, w, c, _, _, rfl, W3, ⟨avk, SqL.of h3a, p3⟩, lks, hck, hin, fun pv0 ep H4 I4 J4 r4 hW4 hp4 al4 => ?_, fun ev ee H4 I4 dd hW4 he => ?_⟩
    · rw [ep] at htl hlen q
      have htl : (Rust.narrow pv0 && RWire.writable (Rust.given pv0)) = true := htl
      unfold RWire.writable at htl
      simp only [Bool.and_eq_true, decide_eq_true_eq] at htl
      obtain ⟨t1, t2, t3⟩ := htl
      have hlen : (0 :: RWire.write (Rust.given pv0)).length ≤ 65536 := hlen
      rw [List.length_cons] at hlen
      refine ⟨r4, pv0, J4, rfl, hp4, al4, t1, t3, t2, by omega, fun H5 D5 s5 n5 h5 => ?_⟩
      have h5L := s5 _ _ (hW4.xs (.inr ⟨rfl, rfl⟩))
      refine ⟨L0, D5, _, _, rfl, rfl, h5L, h5, le_line (by rw [List.length_map]; show 1 + _ ≤ _; omega), fun Z hZ => ?_⟩
      have W5 := hW4.same s5
      refine q _ I4 Z (W5.grow (same_upd hZ) (fun b hb => hb) (fun b _ hb => hb) (al_same (same_upd hZ) W5.al) (fun b u hb => .inl (.inl hb))) ?_ (fun b u hb z => by have := W5.xs (.inl hb); rw [z, hZ] at this; cases this)
      rw [upd_same]
      rfl
    · rw [ee] at htl hlen q
      obtain ⟨mm, k, hdd, ma, msz, mu, mk⟩ := he
      refine ⟨true, TF.exm, fun _ a ha => ?_, fun z => nomatch z⟩
      refine ⟨_, rfl, rfl, rfl, dd, _, _, rfl, hdd, lkS (by decide +kernel) lk0, le_line (by show 2 ≤ _; decide), fun L1 hL1 => ?_⟩
      have s45 : Same H4 (upd H4 L1 (.lst [.int 1, intT k])) := same_upd hL1
      have h5L : upd H4 L1 (.lst [.int 1, intT k]) L1 = some (.lst [.int 1, intT k]) := upd_same
      generalize upd H4 L1 (.lst [.int 1, intT k]) = H5 at s45 h5L ⊢
      refine ⟨_, rfl, rfl, rfl, dd, _, _, rfl, s45 _ _ hdd, lk0, mm, rfl, ma, by omega, fun H6 D6 s6 n6 h6 => ?_⟩
      rw [asc_octs ma, mu] at h6
      have lms : (ev.msg.map Rust.octetOf).length = mm.cps.size := by
        rw [← mu]
        unfold ustr
        rw [List.length_map, List.length_map, Array.length_toList]
      refine ⟨D6, ev.msg.map Rust.octetOf, rfl, .inl (SqL.of h6), by omega, fun H7 D7 s7 n7 h7 => ?_⟩
      have h7L := s7 _ _ (s6 _ _ h5L)
      have lwt : (RWire.writeText (ev.msg.map Rust.octetOf)).length ≤ 2000 := by
        unfold RWire.writeText RWire.writeCount
        rw [List.length_append, low_len]
        omega
      refine ⟨L1, D7, _, _, rfl, rfl, h7L, h7, le_line (by rw [List.length_map]; show 2 + _ ≤ _; omega), fun Z hZ => ?_⟩
      have W7 := hW4.same (s45.trans (s6.trans s7))
      refine q _ I4 Z (W7.grow (same_upd hZ) (fun b hb => hb) (fun b _ hb => hb) (al_same (same_upd hZ) W7.al) (fun b u hb => .inl (.inl hb))) ?_ (fun b u hb z => by have := W7.xs (.inl hb); rw [z, hZ] at this; cases this)
      rw [upd_same, mk]
      obtain ⟨ec, em⟩ := ev
      cases ec <;> rfl

end
end SP

/-! ## P2 -/
set_option maxHeartbeats 4000000
/-! The plain law of the session: what is due, request by request. -/
namespace SP
open PySem
abbrev PWorld := R7244e.Spec.World
def octI (os : List UInt8) : List Int := os.map fun (o : UInt8) => ((o.toNat : Nat) : Int)
/-- the octets of the answer to a call -/
def ansOf (w : PWorld) (c : R7244e.Spec.Call) : List UInt8 := RWire.writeAnswer (Rust.answerOf (R7244e.Spec.runCall w c).2)
/-- what is still to be read, and what is still to be told -/
inductive Todo : Nat → PWorld → List Int → List Int → Prop
  | nil {w : PWorld} : Todo 0 w [] []
  | cons {m : Nat} {w : PWorld} {os : List UInt8} {c : R7244e.Spec.Call} {rest out : List Int} : Rust.asked os = some c → R7244e.Spec.input w c = true → Rust.tellable (R7244e.Spec.runCall w c).2 = true → (ansOf w c).length ≤ 65536 →
      Todo m { (R7244e.Spec.runCall w c).1 with calls := w.calls + 1 } rest out → Todo (m + 1) w (0 :: (os.length : Nat) :: (octI os ++ rest)) (((ansOf w c).length : Nat) :: (octI (ansOf w c) ++ out))
theorem call_inv {p : Int} {r t : List Int} {c : List (List Int)} (h : PyFlat.call PyZr98.shape (p :: r) = some (c, t)) : ∃ (n : Int) (r' : List Int), p = 0 ∧ r = n :: r' ∧ 0 ≤ n ∧ n.toNat ≤ r'.length ∧ c = [[0], r'.take n.toNat] ∧ t = r'.drop n.toNat := by
  have h : (match (if p = 0 then some (0, 1) else none : Option (Nat × Nat)) with
    | none => none
    | some (n, k) => if r.length < n then none else match PyFlat.rows k (r.drop n) with
      | none => none
      | some (xs, t) => some ((p :: r.take n) :: xs, t)) = some (c, t) := h
  by_cases hp : p = 0
  · subst hp
    rw [if_pos rfl] at h
    have h : (match PyFlat.rows 1 r with
      | none => none
      | some (xs, t) => some ([0] :: xs, t)) = some (c, t) := h
    cases r with
    | nil => cases h
    | cons n r' =>
      have er : PyFlat.rows 1 (n :: r') = if 0 ≤ n ∧ n.toNat ≤ r'.length then some ([r'.take n.toNat], r'.drop n.toNat) else none := by
        unfold PyFlat.rows PyFlat.row
        by_cases hn : 0 ≤ n ∧ n.toNat ≤ r'.length
        · rw [if_pos hn]; simp only [if_pos hn]; rfl
        · rw [if_neg hn]; simp only [if_neg hn]
      rw [er] at h
      by_cases hn : 0 ≤ n ∧ n.toNat ≤ r'.length
      · rw [if_pos hn] at h
        simp only [Option.some.injEq, Prod.mk.injEq] at h
        exact ⟨n, r', rfl, rfl, hn.1, hn.2, h.1.symm, h.2.symm⟩
      · rw [if_neg hn] at h
        cases h
  · rw [if_neg hp] at h
    cases h
theorem bytes_back {x : List Int} (h : NeutralIO.bytes x = true) : octI (Zr98Neutral.bytesOf x) = x := by
  unfold octI Zr98Neutral.bytesOf
  rw [List.map_map]
  have h : (x.all fun (n : Int) => decide (0 ≤ n) && decide (n ≤ 255)) = true := h
  have e : x.map ((fun (o : UInt8) => ((o.toNat : Nat) : Int)) ∘ fun (n : Int) => UInt8.ofNat n.toNat) = x.map id := by
    refine List.map_congr_left fun n hn => ?_
    have z := List.all_eq_true.mp h n hn
    simp only [Bool.and_eq_true, decide_eq_true_eq] at z
    show (((UInt8.ofNat n.toNat).toNat : Nat) : Int) = n
    rw [UInt8.toNat_ofNat', Nat.mod_eq_of_lt (by omega)]
    omega
  rw [e, List.map_id]
theorem len_bytes {x : List Int} : (Zr98Neutral.bytesOf x).length = x.length := List.length_map _
theorem goes_inv {w : PWorld} {left : Nat} {b : List UInt8} {r : List (List UInt8)} (h : Rust.goes w left (b :: r) = true) : ∃ c, Rust.asked b = some c ∧ R7244e.Spec.input w c = true ∧ Rust.canBe w c = true ∧ Rust.tellable (R7244e.Spec.step w c).2 = true ∧ (Rust.step w b).2.length ≤ 65536 ∧
    Rust.goes (R7244e.Spec.step w c).1 (left - (Rust.step w b).2.length) r = true := by
  unfold Rust.goes at h
  cases e : Rust.asked b with
  | none => rw [e] at h; cases h
  | some c =>
    rw [e] at h
    simp only [Bool.and_eq_true] at h
    obtain ⟨⟨⟨⟨h1, h2⟩, h3⟩, h4⟩, h5⟩ := h
    have h1' := h1
    unfold Rust.canBe R7244e.Spec.within at h1'
    simp only [Bool.and_eq_true] at h1'
    exact ⟨c, rfl, h1'.1.1, h1, h2, Nat.le_of_ble_eq_true h3, h5⟩
theorem step_eq {w : PWorld} {b : List UInt8} {c : R7244e.Spec.Call} (e : Rust.asked b = some c) (h : Rust.canBe w c = true) : Rust.step w b = ((R7244e.Spec.step w c).1, ansOf w c) := by
  unfold Rust.step
  rw [e]
  exact if_pos h
abbrev reqOf (c : List (List Int)) : List Int := (PyZr98.whole c).headD []
theorem todo_of : ∀ (f : Nat) (l : List Int) (cs : List (List (List Int))) (w : PWorld) (left : Nat), PyFlat.calls PyZr98.shape f l = some cs → (∀ c ∈ cs, NeutralIO.bytes (reqOf c) = true) → Rust.goes w left (cs.map fun c => Zr98Neutral.bytesOf (reqOf c)) = true →
    Todo cs.length w l (PyFlat.told (PyFlat.played (fun s c => Zr98Neutral.step s (c.headD [])) w (cs.map PyZr98.whole)))
  | f, [], cs, w, left, h, _, _ => by
    have h : some [] = some cs := by
      cases f <;> exact h
    cases h
    exact .nil
  | 0, _ :: _, cs, w, left, h, _, _ => by cases h
  | f + 1, p :: r, cs, w, left, h, hb, hg => by
    unfold PyFlat.calls at h
    cases e1 : PyFlat.call PyZr98.shape (p :: r) with
    | none => rw [e1] at h; cases h
    | some ct =>
      obtain ⟨c, t⟩ := ct
      rw [e1] at h
      simp only at h
      cases e2 : PyFlat.calls PyZr98.shape f t with
      | none => rw [e2] at h; cases h
      | some cs' =>
        rw [e2] at h
        simp only [Option.some.injEq] at h
        subst h
        obtain ⟨n, r', rfl, rfl, n0, nl, rfl, rfl⟩ := call_inv e1
        have hx : NeutralIO.bytes (r'.take n.toNat) = true := hb [[0], r'.take n.toNat] List.mem_cons_self
        have hg : Rust.goes w left (Zr98Neutral.bytesOf (r'.take n.toNat) :: cs'.map fun c => Zr98Neutral.bytesOf (reqOf c)) = true := hg
        obtain ⟨q, q1, q2, q3, q4, q5, q6⟩ := goes_inv hg
        have ih := todo_of f _ cs' _ _ e2 (fun c hc => hb c (List.mem_cons_of_mem _ hc)) q6
        have es := step_eq q1 q3
        rw [es] at q5
        have el : (((Zr98Neutral.bytesOf (r'.take n.toNat)).length : Nat) : Int) = n := by
          rw [len_bytes, List.length_take]
          omega
        have T := Todo.cons q1 q2 q4 q5 ih
        rw [bytes_back hx, el, List.take_append_drop] at T
        have eo : PyFlat.told (PyFlat.played (fun s c => Zr98Neutral.step s (c.headD [])) w ((([[0], r'.take n.toNat] : List (List Int)) :: cs').map PyZr98.whole)) =
            (((ansOf w q).length : Nat) : Int) :: (octI (ansOf w q) ++ PyFlat.told (PyFlat.played (fun s c => Zr98Neutral.step s (c.headD [])) (R7244e.Spec.step w q).1 (cs'.map PyZr98.whole))) := by
          have s2 : Zr98Neutral.step w (r'.take n.toNat) = ((R7244e.Spec.step w q).1, octI (ansOf w q)) := by
            show ((Rust.step w (Zr98Neutral.bytesOf (r'.take n.toNat))).1, Zr98Neutral.numbersOf (Rust.step w (Zr98Neutral.bytesOf (r'.take n.toNat))).2) = _
            rw [es]
            rfl
          show PyFlat.told ((Zr98Neutral.step w (r'.take n.toNat)).2 :: PyFlat.played _ (Zr98Neutral.step w (r'.take n.toNat)).1 _) = _
          rw [s2]
          show ((((octI (ansOf w q)).length : Nat) : Int) :: octI (ansOf w q)) ++ _ = _
          rw [show (octI (ansOf w q)).length = (ansOf w q).length from List.length_map _]
          rfl
        rw [eo]
        exact T
theorem todo_start {l : List Int} (h : PyZr98.answers_asked l = true) : ∃ m, m ≤ 200 ∧ Todo m R7244e.Spec.World.start l (PyZr98.answers l) := by
  unfold PyZr98.answers_asked at h
  cases e : PyFlat.calls PyZr98.shape l.length l with
  | none =>
    have ec : PyZr98.calls l = none := by unfold PyZr98.calls; rw [e]
    rw [ec] at h
    cases h
  | some cs =>
    have ec : PyZr98.calls l = some (cs.map PyZr98.whole) := by unfold PyZr98.calls; rw [e]
    rw [ec] at h
    simp only [Bool.and_eq_true] at h
    obtain ⟨⟨h1, h2⟩, _⟩ := h
    have h1 : decide ((cs.map PyZr98.whole).length ≤ 200) = true := h1
    rw [decide_eq_true_eq, List.length_map] at h1
    have h2 : ((((cs.map PyZr98.whole).map fun c => c.headD []).all Zr98Neutral.asked1) && (decide (1 ≤ ((cs.map PyZr98.whole).map fun c => c.headD []).length) && Rust.fits (((cs.map PyZr98.whole).map fun c => c.headD []).map Zr98Neutral.bytesOf))) = true := h2
    simp only [Bool.and_eq_true] at h2
    obtain ⟨h3, _, h4⟩ := h2
    unfold Rust.fits at h4
    simp only [Bool.and_eq_true] at h4
    obtain ⟨_, h5⟩ := h4
    refine ⟨cs.length, h1, ?_⟩
    have ea : PyZr98.answers l = PyFlat.told (PyFlat.played (fun s c => Zr98Neutral.step s (c.headD [])) Zr98Neutral.start (cs.map PyZr98.whole)) := by
      unfold PyZr98.answers
      rw [ec]
    rw [ea]
    refine todo_of l.length l cs _ _ e (fun c hc => ?_) (by rw [List.map_map, List.map_map] at h5; exact h5)
    rw [List.map_map] at h3
    exact List.all_eq_true.mp h3 _ (List.mem_map.mpr ⟨c, hc, rfl⟩)
end SP

/-! ## SP14 -/
set_option maxHeartbeats 4000000
namespace SP
open PySem PySem.Spec PyProof.Rows L2 SB
/-- the session -/
def sp_answersK (K : PySem.W.Frag) : Sp := fun vs H Q _ => ∃ (a : Addr) (ns : List Int), vs = [.ref a] ∧ SqL K H a (ns.map V.int) ∧ ns.length ≤ 61000 ∧ PyZr98.answers_asked ns = true ∧ ∀ (H' : Hp) (p : Addr), H' p = some (.lst ((PyZr98.answers ns).map V.int)) → Q (.ref p) H'
section
variable {K : PySem.W.Frag} {mg : Str → Option Value} (T : TX K mg)
def sp_answers (_ : TX K mg) : Sp := fun vs H Q E => ∃ (a : Addr), vs = [.ref a] ∧ sp_answersK K vs H Q E
end
end SP

/-! ## E16 -/
set_option maxHeartbeats 4000000
namespace SP
open PySem PySem.Spec PyProof.Rows L2 SB
open SS (VC VG R Sz RateOk treeW ratesOf leadsTo)
open R7244e.Spec (reachable recurrentStates hasOneClass canMeet distribution wordProb endState coverage separation unstopped stopProbs survival entry target)
section
variable {P : Program} {w : World} {base : Heap}
variable {K : PySem.W.Frag} {mg : Str → Option Value}

/-- what is told while the session goes on: the calls, what is answered so far -/
def TellX (H : Hp) (a TL : Addr) (told : List Int) : Addr → HO → Prop := fun b o => (b = a ∧ H a = some o) ∨ (b = TL ∧ o = .lst (told.map V.int))
theorem seq_tell {I : Addr → Prop} {H H' : Hp} {T : TX K mg} {a TL x : Addr} {told : List Int} {w : SWorld} {xs : List V} (h : WoAt T I (TellX H a TL told) H' x w) (q : SqL K H a xs) : SqL K H' a xs := by
  rcases q with (q | ⟨o, q⟩) | q
  · exact .inl (.inl (h.xs (.inl ⟨rfl, q⟩)))
  · exact .inl (.inr ⟨o, h.xs (.inl ⟨rfl, q⟩)⟩)
  · exact .inr q
theorem octI_map (os : List UInt8) : (octI os).map V.int = os.map octT := by
  unfold octI
  rw [List.map_map]
  rfl
theorem lt_line2 {n : Nat} (h : n ≤ 16000000) : n < sizeLine := by rw [sizeLine_eq]; omega
theorem len_octI (os : List UInt8) : (octI os).length = os.length := List.length_map _
abbrev s_answers : Stmt := topS 82
theorem sc_answers : FnScope ["calls", "slots", "told", "place", "begin", "answer"] ["calls"] (defScope s_answers) := SB.sc_by (by decide +kernel)
theorem len_answers {T : TX K mg} : ∀ vs H Q E, sp_answers T vs H Q E → vs.length = (["calls"] : List Str).length := by
  rintro _ H Q E ⟨_, rfl, _⟩
  rfl
theorem ok_answers (T : TX K mg) (c_answer_of : SB.Cal P w K mg base 80 "answer_of" (sp_answer_of T)) (m_Slots : SB.Mak P w K mg base 1 "Slots" T.Slots (sp_Slots___init__ T))  {f : Addr} {fd : FuncData} (F : Fun K "answers" "answers" s_answers f fd) : FnOk P w K mg base CX0 81 f fd ["calls"] (sp_answers T) := by
  refine F.ok sc_answers len_answers (fun cdv A outer s H vs Q E hr h => ⟨_, (pss_cons (ps_set (i := 1) sc_answers.nd rfl (by first | exact Or.inl rfl | exact Or.inr rfl) (SB.mak0 m_Slots hr (by decide) rfl)) (pss_cons (ps_set (i := 2) sc_answers.nd rfl (by first | exact Or.inl rfl | exact Or.inr rfl) (pe_lst pa_nil)) (pss_cons (ps_set (i := 3) sc_answers.nd rfl (by first | exact Or.inl rfl | exact Or.inr rfl) pe_int) (pss_cons (ps_while (by first | exact PassesOwn.never | exact passes_of rfl) (pt_cmpR op_lt (pv 3) (pe_callB (SB.kLen (K := K) rfl) (by rfl) T.b_len PySem.boot_len (pa_cons (pv 0) pa_nil)) (nomark _)) (pss_cons (ps_set (i := 4) sc_answers.nd rfl (by first | exact Or.inl rfl | exact Or.inr rfl) (pe_op op_add (pv 3) pe_int)) (pss_cons (ps_set (i := 3) sc_answers.nd rfl (by first | exact Or.inl rfl | exact Or.inr rfl) (pe_op op_add (pv 4) (pe_ix (SB.kIxL (K := K) rfl) (pv 0) (pe_op op_add (pv 3) pe_int) (fun _ _ => rfl)))) (pss_cons (ps_set (i := 5) sc_answers.nd rfl (by first | exact Or.inl rfl | exact Or.inr rfl) (SB.cal c_answer_of hr (by decide) rfl (pa_cons (pv 1) (pa_cons (pe_slice (SB.kSlL (K := K) rfl) (pv 0) (po_some (pv 4)) (po_some (pv 3))) pa_nil)))) (pss_cons (ps_expr (pe_bm PySem.F.plainAttrs_list PySem.F.slot_list_append PySem.F.type_list_append mt_append (pv 2) (pa_cons (pe_callB (SB.kLen (K := K) rfl) (by rfl) T.b_len PySem.boot_len (pa_cons (pv 5) pa_nil)) pa_nil))) (pss_one (ps_expr (pe_bm PySem.F.plainAttrs_list PySem.F.slot_list_extend PySem.F.type_list_extend mt_extend (pv 2) (pa_cons (pv 5) pa_nil))))))))) (pss_one (ps_ret (pv 2))))))), ?_⟩)
  obtain ⟨a, rfl, a', ns, e0, hq, hlen, has, q⟩ := h
  cases e0
  obtain ⟨m0, hm0, todo⟩ := todo_start has
  intro x dx hx hdx nd
  refine ⟨x, dx, rfl, upd_same, fun H1 c1 hW1 => ⟨rfl, le_line (by show 0 ≤ _; decide), fun TL hTL => ?_⟩⟩
  have s1 := mk_same hx hdx c1
  have naT : ∀ o, H a = some o → a ≠ TL := fun o z e => by
    have := s1 _ _ z
    rw [e, hTL] at this
    cases this
  have s12 : Same H1 (upd H1 TL (.lst [])) := same_upd hTL
  have h2T : upd H1 TL (.lst []) TL = some (.lst (([] : List Int).map V.int)) := upd_same
  generalize upd H1 TL (.lst []) = H2 at s12 h2T ⊢
  have W2 : WoAt T (fun _ => False) (TellX H a TL []) H2 x R7244e.Spec.World.start := by
    have W1 := hW1 (fun b o => b = a ∧ H a = some o) (fun b o z => by
      obtain ⟨rfl, z⟩ := z
      have n1 := ne_of_none z hx
      have n2 := ne_of_none z hdx
      exact ⟨by rw [upd_ne n1, upd_ne n2]; exact z, n1⟩)
    refine W1.grow s12 (fun b hb => hb) (fun b _ hb => hb) (fun b hb => hb.elim) (fun b o z => ?_)
    rcases z with z | ⟨rfl, rfl⟩
    · exact .inl z
    · exact .inr ⟨hTL, h2T, fun z => z⟩
  refine ⟨fun m σ H' => ∃ (I : Addr → Prop) (w : SWorld) (rest out told : List Int) (place : Nat) (o4 o5 : Option V), σ = [some (.ref a), some (.ref x), some (.ref TL), some (intT place), o4, o5] ∧ WoAt T I (TellX H a TL told) H' x w ∧ Todo m w rest out ∧ ns.drop place = rest ∧ PyZr98.answers ns = told ++ out ∧ told.length + m * 65537 ≤ 200 * 65537,
    ⟨m0, _, _, _, _, [], 0, none, none, rfl, W2, todo, rfl, rfl, by rw [List.length_nil]; omega⟩, ?_⟩
  rintro m σ H3 ⟨I, w, rest, out, told, place, o4, o5, rfl, W3, td, ed, eo, hb⟩
  have hq3 := seq_tell W3 hq
  have h3T := W3.xs (.inr ⟨rfl, rfl⟩)
  refine ⟨_, rfl, _, rfl, a, _, rfl, .inl hq3, _, _, rfl, rfl, _, rfl, ?_⟩
  have et : decide (((place : Nat) : Int) < (((ns.map V.int).length : Nat) : Int)) = decide (place < ns.length) := by
    rw [List.length_map, decide_eq_decide]
    omega
  cases td with
  | nil =>
    have : ns.length ≤ place := by
      have := congrArg List.length ed
      rw [List.length_drop, List.length_nil] at this
      omega
    refine itF (by rw [et]; exact decide_eq_false (by omega)) ⟨_, rfl, q H3 TL ?_⟩
    rw [eo, List.append_nil]
    exact h3T
  | @cons m _ os c rest out qa qi qt ql td =>
    have ldr : (ns.drop place).length = 2 + (os.length + rest.length) := by
      rw [ed, List.length_cons, List.length_cons, List.length_append, len_octI]
      omega
    rw [List.length_drop] at ldr
    have a1 : (ns.map V.int)[place + 1]? = some (intT os.length) := by
      have : (ns.drop place)[1]? = some ((os.length : Nat) : Int) := by rw [ed]; rfl
      rw [List.getElem?_drop] at this
      rw [List.getElem?_map, this]
      rfl
    have e5 : (ns.map V.int).drop (place + 2) = (octI os ++ rest).map V.int := by
      rw [← List.drop_drop, ← List.map_drop, ed]
      rfl
    refine itT (by rw [et]; exact decide_eq_true (by omega)) ⟨fun σ' H' => ∃ m', m' < m + 1 ∧ ∃ (I : Addr → Prop) (w : SWorld) (rest out told : List Int) (place : Nat) (o4 o5 : Option V), σ' = [some (.ref a), some (.ref x), some (.ref TL), some (intT place), o4, o5] ∧ WoAt T I (TellX H a TL told) H' x w ∧ Todo m' w rest out ∧ ns.drop place = rest ∧ PyZr98.answers ns = told ++ out ∧ told.length + m' * 65537 ≤ 200 * 65537, fun σ' H' h => h, _, rfl, _, _, rfl, rfl, _, rfl, _, rfl, _, rfl, _, _, rfl, rfl, a, _, (((place + 1 : Nat)) : Int), _, rfl, rfl, hq3, atI_nat a1, _, _, rfl, rfl, _, rfl, _, rfl, _, rfl, _, rfl, _, rfl, _, rfl, a, _, rfl, hq3, fun S hS => ?_⟩
    have ec : cutV (ns.map V.int) (some (((place : Nat) : Int) + 2)) (some ((((place : Nat) : Int) + 2) + ((os.length : Nat) : Int))) = os.map octT := by
      have := cut_mid (ns.map V.int) (place + 2) os.length (by rw [List.length_map]; omega)
      rw [e5] at this
      rw [← octI_map]
      refine Eq.trans this ?_
      rw [← List.map_take, List.take_append_of_le_length (by rw [len_octI]; exact Nat.le_refl _), ← len_octI, List.take_length]
    rw [ec]
    have s34 : Same H3 (upd H3 S (.lst (os.map octT))) := same_upd hS
    have h4S : upd H3 S (.lst (os.map octT)) S = some (.lst (os.map octT)) := upd_same
    generalize upd H3 S (.lst (os.map octT)) = H4 at s34 h4S ⊢
    refine ⟨x, S, os, w, c, I, _, rfl, W3.same s34, h4S, by omega, qa, qi, qt, ql, fun H5 I5 D W5 h5D nD => ?_⟩
    have h5T := W5.xs (.inr ⟨rfl, rfl⟩)
    have nDT : TL ≠ D := nD TL _ (.inr ⟨rfl, rfl⟩)
    have lD : ((RWire.writeAnswer (Rust.answerOf (R7244e.Spec.runCall w c).2)).map octT).length = (ansOf w c).length := List.length_map _
    refine ⟨_, rfl, .inl ⟨rfl, _, SqL.of h5T⟩, _, rfl, D, _, rfl, .inl (SqL.of h5D), TL, _, _, rfl, rfl, h5T, lt_line2 (by rw [List.length_map]; omega), ?_⟩
    rw [lD]
    have W6 : WoAt T I5 (TellX H a TL (told ++ [(((ansOf w c).length : Nat) : Int)])) (upd H5 TL (.lst (told.map V.int ++ [V.int (((ansOf w c).length : Nat) : Int)]))) x (R7244e.Spec.runCall w c).1 := W5.put (.inr ⟨rfl, rfl⟩) (fun b o z => by
      rcases z with ⟨rfl, z⟩ | ⟨rfl, rfl⟩
      · exact .inl ⟨naT _ z, .inl ⟨rfl, z⟩⟩
      · exact .inr ⟨rfl, by rw [List.map_append]; rfl⟩)
    have h6D : upd H5 TL (.lst (told.map V.int ++ [V.int (((ansOf w c).length : Nat) : Int)])) D = some (.lst ((ansOf w c).map octT)) := by
      rw [upd_ne nDT.symm]
      exact h5D
    have h6T : upd H5 TL (.lst (told.map V.int ++ [V.int (((ansOf w c).length : Nat) : Int)])) TL = some (.lst (told.map V.int ++ [V.int (((ansOf w c).length : Nat) : Int)])) := upd_same
    generalize upd H5 TL (.lst (told.map V.int ++ [V.int (((ansOf w c).length : Nat) : Int)])) = H6 at W6 h6D h6T ⊢
    refine ⟨_, rfl, .inl ⟨rfl, _, SqL.of h6T⟩, _, rfl, TL, D, _, _, rfl, rfl, h6T, h6D, Nat.le_of_lt (lt_line2 (by rw [List.length_append, List.length_map, List.length_map]; show told.length + 1 + _ ≤ _; have ql2 : (ansOf w c).length ≤ 65536 := ql; omega)), m, Nat.lt_succ_self _, I5, _, rest, out, told ++ (((ansOf w c).length : Nat) : Int) :: octI (ansOf w c), place + 2 + os.length, _, _, rfl, (W6.put (.inr ⟨rfl, by rw [List.map_append]⟩) (fun b o z => ?_)).calls _, td, ?_, ?_, ?_⟩
    · rcases z with ⟨rfl, z⟩ | ⟨rfl, rfl⟩
      · exact .inl ⟨naT _ z, .inl ⟨rfl, z⟩⟩
      · refine .inr ⟨rfl, ?_⟩
        rw [List.map_append, List.map_cons, octI_map, List.append_assoc]
        rfl
    · rw [Nat.add_assoc, ← List.drop_drop, ed, ← List.drop_drop]
      show (octI os ++ rest).drop os.length = rest
      rw [← len_octI os, List.drop_left]
    · rw [eo, List.append_assoc]
      rfl
    · have ql2 : (ansOf w c).length ≤ 65536 := ql
      rw [List.length_append, List.length_cons, len_octI]
      omega

end
end SP

/-! ## F2 -/
set_option maxHeartbeats 0
namespace SPH
open PySem PySem.Spec PyProof.Rows L2 SB SP
section
variable {K : PySem.W.Frag} {h : Heap} {mg : Str → Option Value} {w : World}
theorem all_at {α : Type} {l : List α} {f : α → Bool} (h : l.all f = true) {x : α} (m : x ∈ l) : f x = true := List.all_eq_true.mp h x m
structure Ex (K : PySem.W.Frag) : Prop where
  obj : ∀ x ∈ clsN, objB K x = true
  kb : ∀ t ∈ kbN, ∀ x ∈ clsN, PySem.W.kitOne K (.type t) (.ref (He.ga K x)) = some false
  ko : ∀ t ∈ koN, ∀ x ∈ clsN, PySem.W.kitOne K (.ref (He.ga K x)) (.type t) = some false
  ke : ∀ x ∈ clsN, ∀ y ∈ clsN, x ≠ y → PySem.W.kitOne K (.ref (He.ga K x)) (.ref (He.ga K y)) = some false
  ne : ∀ p ∈ neN, He.ga K p.1 ≠ He.ga K p.2
  tz : He.tupB K "ZERO" zeroD = true
  to : He.tupB K "ONE" oneD = true
  tl : He.tupB K "LETTERS" lettersD = true
  ts : He.tupB K "SIZES" sizesD = true
  td : He.tupB K "DOORS" doorsD = true
  own : ownB K (He.ga K "Refused") = true
  ref : refB K (He.ga K "Refused") = true
theorem ex_of (e : exB K = true) : Ex K := by
  unfold exB at e
  obtain ⟨e1, e⟩ := He.ba e
  obtain ⟨e2, e⟩ := He.ba e
  obtain ⟨e3, e⟩ := He.ba e
  obtain ⟨e4, e⟩ := He.ba e
  obtain ⟨e5, e⟩ := He.ba e
  obtain ⟨e6, e⟩ := He.ba e
  obtain ⟨e7, e8⟩ := He.ba e
  obtain ⟨t1, t⟩ := He.ba e6
  obtain ⟨t2, t⟩ := He.ba t
  obtain ⟨t3, t⟩ := He.ba t
  obtain ⟨t4, t5⟩ := He.ba t
  refine ⟨fun x hx => all_at e1 hx, fun t ht x hx => of_decide_eq_true (all_at (all_at e2 ht) hx), fun t ht x hx => of_decide_eq_true (all_at (all_at e3 ht) hx), fun x hx y hy n => ?_, fun p hp => of_decide_eq_true (all_at e5 hp), t1, t2, t3, t4, t5, e7, e8⟩
  have z := all_at (all_at e4 hx) hy
  rw [Bool.or_eq_true] at z
  rcases z with z | z
  · exact absurd (of_decide_eq_true z) n
  · exact of_decide_eq_true z
/-- the three classes of values -/
theorem cls3 {C : Addr} (h : C = He.ga K "Nothing" ∨ C = He.ga K "Text" ∨ C = He.ga K "Record") : ∃ x ∈ clsN, C = He.ga K x := by
  rcases h with h | h | h
  · exact ⟨_, List.mem_cons_self, h⟩
  · exact ⟨_, List.mem_cons_of_mem _ List.mem_cons_self, h⟩
  · exact ⟨_, List.mem_cons_of_mem _ (List.mem_cons_of_mem _ List.mem_cons_self), h⟩
theorem ne_at (e : Ex K) (i : Nat) {p : Str × Str} (h : neN[i]? = some p := by rfl) : He.ga K p.1 ≠ He.ga K p.2 := e.ne p (List.mem_of_getElem? h)
theorem oex_of (e : Ex K) : OexC K (He.ga K "Refused") := by
  obtain ⟨r1, r⟩ := He.ba (show refB K (He.ga K "Refused") = true from e.ref)
  obtain ⟨r2, r⟩ := He.ba r
  obtain ⟨r3, r⟩ := He.ba r
  obtain ⟨r4, _⟩ := He.ba r
  refine ⟨?_, He.eqO_ok r1, of_decide_eq_true r2, of_decide_eq_true r3, r4⟩
  have o := e.own
  generalize He.ga K "Refused" = C at o ⊢
  unfold ownB at o
  cases l : K.lookup C with
  | none => rw [l] at o; cases o
  | some ob =>
    rw [l] at o
    obtain ⟨cls, dd, dt, sl⟩ := ob
    cases cls with
    | type t =>
      cases dt with
      | cls cd =>
        obtain ⟨nm, bs, mro, ns, qn, hd, sn, sub, ab, col, del⟩ := cd
        have o : (decide (t = "type") && (hd && (!del && (mroB C mro && newB sl.toList)))) = true := o
        obtain ⟨o1, o⟩ := He.ba o
        obtain ⟨o2, o⟩ := He.ba o
        obtain ⟨o3, o⟩ := He.ba o
        obtain ⟨o4, o5⟩ := He.ba o
        have o1 := of_decide_eq_true o1
        have o3 : del = false := by
          cases del
          · rfl
          · cases o3
        obtain ⟨bm, e1, p2⟩ := mroB_ok o4
        obtain ⟨k0, k1, k2, k3, k5, e2⟩ := newB_ok o5
        obtain ⟨sl⟩ := sl
        have e2 : sl = [k0, k1, k2, k3, some (.builtin "ValueError.__new__"), k5] := e2
        subst o1 o2 o3 e1 e2
        exact ⟨nm, qn, ns, bs, bm, sn, sub, ab, col, dd, k0, k1, k2, k3, k5, rfl, p2⟩
      | _ => cases o
    | _ => cases dt <;> cases o
noncomputable def mkTX (X : K.In h) (G : h.Ns mainGlobals mg) (c : Says K) : TX K mg where
  Drawn := He.ga K "Drawn"
  clDrawn := He.cls_ok (c.d.fact 94)
  gDrawn := He.glo_ok X G (c.d.fact 57)
  nDrawn_chain := He.noat_ok (c.d.fact 95)
  nDrawn_below := He.noat_ok (c.d.fact 96)
  nDrawn_weights := He.noat_ok (c.d.fact 97)
  Rule := He.ga K "Rule"
  clRule := He.cls_ok (c.d.fact 99)
  gRule := He.glo_ok X G (c.d.fact 58)
  nRule_drawn := He.noat_ok (c.d.fact 100)
  nRule_start := He.noat_ok (c.d.fact 101)
  nRule_rates := He.noat_ok (c.d.fact 102)
  nRule_coverages := He.noat_ok (c.d.fact 103)
  Nothing := He.ga K "Nothing"
  clNothing := He.cls_ok (c.d.fact 105)
  gNothing := He.glo_ok X G (c.d.fact 59)
  nNothing_octets := He.noat_ok (c.d.fact 106)
  Text := He.ga K "Text"
  clText := He.cls_ok (c.d.fact 108)
  gText := He.glo_ok X G (c.d.fact 60)
  nText_octets := He.noat_ok (c.d.fact 109)
  Record := He.ga K "Record"
  clRecord := He.cls_ok (c.d.fact 111)
  gRecord := He.glo_ok X G (c.d.fact 61)
  nRecord_members := He.noat_ok (c.d.fact 112)
  Row := He.ga K "Row"
  clRow := He.cls_ok (c.d.fact 114)
  gRow := He.glo_ok X G (c.d.fact 62)
  nRow_octets := He.noat_ok (c.d.fact 115)
  nRow_place := He.noat_ok (c.d.fact 116)
  Walk := He.ga K "Walk"
  clWalk := He.cls_ok (c.d.fact 118)
  gWalk := He.glo_ok X G (c.d.fact 63)
  nWalk_rule := He.noat_ok (c.d.fact 119)
  nWalk_word := He.noat_ok (c.d.fact 120)
  nWalk_is_started := He.noat_ok (c.d.fact 121)
  nWalk_is_finished := He.noat_ok (c.d.fact 122)
  Enumeration := He.ga K "Enumeration"
  clEnumeration := He.cls_ok (c.d.fact 124)
  gEnumeration := He.glo_ok X G (c.d.fact 64)
  nEnumeration_rule := He.noat_ok (c.d.fact 125)
  nEnumeration_remaining := He.noat_ok (c.d.fact 126)
  nEnumeration_many := He.noat_ok (c.d.fact 127)
  nEnumeration_last := He.noat_ok (c.d.fact 128)
  nEnumeration_is_finished := He.noat_ok (c.d.fact 129)
  Slots := He.ga K "Slots"
  clSlots := He.cls_ok (c.d.fact 131)
  gSlots := He.glo_ok X G (c.d.fact 65)
  nSlots_walks := He.noat_ok (c.d.fact 132)
  nSlots_enumerations := He.noat_ok (c.d.fact 133)
  Refused := He.ga K "Refused"
  gRefused := He.glo_ok X G (c.d.fact 66)
  tWRAP := (He.int_ok X G (c.d.fact 72 (f := .int "WRAP" 18446744073709551616))).choose
  gWRAP := (He.int_ok X G (c.d.fact 72 (f := .int "WRAP" 18446744073709551616))).choose_spec
  tWRONG_KIND := (He.int_ok X G (c.d.fact 73 (f := .int "WRONG_KIND" 1))).choose
  gWRONG_KIND := (He.int_ok X G (c.d.fact 73 (f := .int "WRONG_KIND" 1))).choose_spec
  tOUT_OF_RANGE := (He.int_ok X G (c.d.fact 74 (f := .int "OUT_OF_RANGE" 2))).choose
  gOUT_OF_RANGE := (He.int_ok X G (c.d.fact 74 (f := .int "OUT_OF_RANGE" 2))).choose_spec
  tMOST_LETTERS := (He.int_ok X G (c.d.fact 75 (f := .int "MOST_LETTERS" 8))).choose
  gMOST_LETTERS := (He.int_ok X G (c.d.fact 75 (f := .int "MOST_LETTERS" 8))).choose_spec
  tMOST_LENGTH := (He.int_ok X G (c.d.fact 76 (f := .int "MOST_LENGTH" 4))).choose
  gMOST_LENGTH := (He.int_ok X G (c.d.fact 76 (f := .int "MOST_LENGTH" 4))).choose_spec
  tMOST_STATES := (He.int_ok X G (c.d.fact 77 (f := .int "MOST_STATES" 3))).choose
  gMOST_STATES := (He.int_ok X G (c.d.fact 77 (f := .int "MOST_STATES" 3))).choose_spec
  tMOST_STEPS := (He.int_ok X G (c.d.fact 78 (f := .int "MOST_STEPS" 8))).choose
  gMOST_STEPS := (He.int_ok X G (c.d.fact 78 (f := .int "MOST_STEPS" 8))).choose_spec
  ZERO := He.ga K "ZERO"
  gZERO := He.glo_ok X G (c.d.fact 67)
  hZERO := fun H => He.tupB_ok (ex_of c.more).tz H
  ONE := He.ga K "ONE"
  gONE := He.glo_ok X G (c.d.fact 68)
  hONE := fun H => He.tupB_ok (ex_of c.more).to H
  LETTERS := He.ga K "LETTERS"
  gLETTERS := He.glo_ok X G (c.d.fact 69)
  hLETTERS := fun H => He.tupB_ok (ex_of c.more).tl H
  SIZES := He.ga K "SIZES"
  gSIZES := He.glo_ok X G (c.d.fact 70)
  hSIZES := fun H => He.tupB_ok (ex_of c.more).ts H
  DOORS := He.ga K "DOORS"
  gDOORS := He.glo_ok X G (c.d.fact 71)
  door := fun i => He.ga K (doorN.getD i "")
  hDOORS := fun H => He.tupB_ok (ex_of c.more).td H
  b_len := He.free_ok X G (c.d.fact 79)
  b_isinstance := He.free_ok X G (c.d.fact 80)
  b_abs := He.free_ok X G (c.d.fact 81)
  b_all := He.free_ok X G (c.d.fact 82)
  b_sum := He.free_ok X G (c.d.fact 83)
  b_ord := He.free_ok X G (c.d.fact 84)
  b_str := He.free_ok X G (c.d.fact 85)
  b_list := He.free_ok X G (c.d.fact 86)
  b_tuple := He.free_ok X G (c.d.fact 87)
  b_range := He.free_ok X G (c.d.fact 88)
  b_enumerate := He.free_ok X G (c.d.fact 89)
  b_zip := He.free_ok X G (c.d.fact 90)
  b_reversed := He.free_ok X G (c.d.fact 91)
  b_int := He.free_ok X G (c.d.fact 92)
  b_ValueError := He.free_ok X G (c.d.fact 93)
  obj := fun C hC => by
    obtain ⟨x, hx, rfl⟩ := cls3 hC
    obtain ⟨o1, o⟩ := He.ba (show objB K x = true from (ex_of c.more).obj x hx)
    obtain ⟨o2, o⟩ := He.ba o
    obtain ⟨o3, o4⟩ := He.ba o
    exact ⟨of_decide_eq_true o1, of_decide_eq_true o2, of_decide_eq_true o3, of_decide_eq_true o4⟩
  kitB := fun t C ht hC => by
    obtain ⟨x, hx, rfl⟩ := cls3 hC
    exact (ex_of c.more).kb t ht x hx
  kitO := fun t C ht hC => by
    obtain ⟨x, hx, rfl⟩ := cls3 hC
    exact (ex_of c.more).ko t ht x hx
  kitE := fun C E hC hE n => by
    obtain ⟨x, hx, rfl⟩ := cls3 hC
    obtain ⟨y, hy, rfl⟩ := cls3 hE
    exact (ex_of c.more).ke x hx y hy fun z => n (by rw [z])
  neNT := ne_at (ex_of c.more) 0
  neNR := ne_at (ex_of c.more) 1
  neTR := ne_at (ex_of c.more) 2
  neWR := ne_at (ex_of c.more) 3
  neWD := ne_at (ex_of c.more) 4
  neER := ne_at (ex_of c.more) 5
  neED := ne_at (ex_of c.more) 6
  neSR := ne_at (ex_of c.more) 7
  neSD := ne_at (ex_of c.more) 8
  neWE := ne_at (ex_of c.more) 9
  neWS := ne_at (ex_of c.more) 10
  neES := ne_at (ex_of c.more) 11
theorem mkTR (X : K.In h) (G : h.Ns mainGlobals mg) (c : Says K) : TR (mkTX X G c) where
  oex := oex_of (ex_of c.more)
  nk := He.noat_ok (c.d.fact 135)
  nm := He.noat_ok (c.d.fact 136)
  xf := by
    obtain ⟨_, r⟩ := He.ba (show refB K (He.ga K "Refused") = true from (ex_of c.more).ref)
    obtain ⟨_, r⟩ := He.ba r
    obtain ⟨_, r⟩ := He.ba r
    obtain ⟨_, r⟩ := He.ba r
    exact xfB_ok (He.ba r).1
  exm := He.exm_ok (c.d.fact 137 (f := .exm "Refused" "Refused" true))
theorem ref_init (c : Says K) : PySem.W.findIn K (.ref (He.ga K "Refused")) "__init__" = some (some (.ref (He.ma K (He.ga K "Refused") "__init__"))) ∧ PySem.W.typeIn K (.ref (He.ma K (He.ga K "Refused") "__init__")) = some (.type "function") := by
  obtain ⟨_, r⟩ := He.ba (show refB K (He.ga K "Refused") = true from (ex_of c.more).ref)
  obtain ⟨_, r⟩ := He.ba r
  obtain ⟨_, r⟩ := He.ba r
  obtain ⟨_, r⟩ := He.ba r
  obtain ⟨_, r⟩ := He.ba r
  obtain ⟨r1, r2⟩ := He.ba r
  exact ⟨He.eqO_ok r1, of_decide_eq_true r2⟩
end
end SPH

/-! ## F3 -/
set_option maxHeartbeats 0
namespace SPH
open PySem PySem.Spec PyProof.Rows L2 SB SP
section
variable {P : Program} {K : PySem.W.Frag} {h : Heap} {mg : Str → Option Value} {w : World} {base : Heap}
theorem up {CX : CXT} {j k : Nat} {f : Addr} {fd : FuncData} {ps : List Str} {sp : Sp} (F : FnOk P w K mg base CX j f fd ps sp) (h : j ≤ k) : FnOk P w K mg base CX k f fd ps sp := ⟨F.len, fun A outer s H args us vs Q E hr => F.run A outer s H args us vs Q E (hr.mono h)⟩
theorem upH {CX : CXT} {j k : Nat} {f : Addr} {fd : FuncData} {ps : List Str} {sp : Sp} (F : L2H.FnH P w K mg base CX j f fd ps sp) (h : j ≤ k) : L2H.FnH P w K mg base CX k f fd ps sp := ⟨F.len, fun A outer s H args us vs Q E p hr => F.run A outer s H args us vs Q E p (hr.mono h)⟩
theorem less {CX : CXT} {k : Nat} {f : Addr} {fd : FuncData} {ps : List Str} {sp sp' : Sp} (F : FnOk P w K mg base CX k f fd ps sp) (i : ∀ vs H Q E, sp' vs H Q E → sp vs H Q E) : FnOk P w K mg base CX k f fd ps sp' := ⟨fun vs H Q E z => F.len vs H Q E (i _ _ _ _ z), fun A outer s H args us vs Q E hr e b r z => F.run A outer s H args us vs Q E hr e b r (i _ _ _ _ z)⟩
theorem fnB {x q : Str} {st : Stmt} {f : Addr} {ps : List Str} (h : ∃ fd, FunD K x q (defArgs st) (defBody st) (defScope st) [] [] f fd)
    (b : ∀ (kV doc pm : Value) (an : Option Addr) (cdv ct : Value) (us : List Value), us.length = ps.length → bindArgs (PySem.W.fnOf x q (defArgs st) (defBody st) (defScope st) .none kV doc pm an cdv ct) ⟨us, []⟩ = pure (ps.zip us)) :
    ∃ fd, Fun K x q st f fd ∧ Binds K fd ps [] ∧ ∀ (s : Shared) (us : List Value), us.length = ps.length → BindsTo s fd ⟨us, []⟩ (ps.zip us) := by
  obtain ⟨fd, F⟩ := h
  obtain ⟨oc, od, dV, kV, doc, pm, an, cdv, ct, osl, e, lk, hcd, hD, _⟩ := F.ex
  have e0 : dV = .none := by
    rcases hD with ⟨_, z⟩ | ⟨z, _⟩
    · exact z
    · exact absurd rfl z
  subst e0
  exact ⟨fd, ⟨⟨oc, od, kV, doc, pm, an, cdv, ct, osl, e, lk, hcd⟩, F.kp⟩, F.bindsN b, fun s us hl => F.bindsA b s us hl⟩
theorem fn_divisor (c : Says K) : ∃ fd, Fun K "divisor" "divisor" s_divisor (He.ga K "divisor") fd ∧ Binds K fd ["a", "b"] [] ∧ ∀ (s : Shared) (us : List Value), us.length = (["a", "b"] : List Str).length → BindsTo s fd ⟨us, []⟩ ((["a", "b"] : List Str).zip us) := fnB (c.d.def_ 0 (d := d_divisor)) fun _ _ _ _ _ _ us hl => match us, hl with | [_, _], _ => rfl
theorem fn_fraction (c : Says K) : ∃ fd, Fun K "fraction" "fraction" s_fraction (He.ga K "fraction") fd ∧ Binds K fd ["above", "below"] [] ∧ ∀ (s : Shared) (us : List Value), us.length = (["above", "below"] : List Str).length → BindsTo s fd ⟨us, []⟩ ((["above", "below"] : List Str).zip us) := fnB (c.d.def_ 1 (d := d_fraction)) fun _ _ _ _ _ _ us hl => match us, hl with | [_, _], _ => rfl
theorem fn_less (c : Says K) : ∃ fd, Fun K "less" "less" s_less (He.ga K "less") fd ∧ Binds K fd ["one", "other"] [] ∧ ∀ (s : Shared) (us : List Value), us.length = (["one", "other"] : List Str).length → BindsTo s fd ⟨us, []⟩ ((["one", "other"] : List Str).zip us) := fnB (c.d.def_ 2 (d := d_less)) fun _ _ _ _ _ _ us hl => match us, hl with | [_, _], _ => rfl
theorem fn_times (c : Says K) : ∃ fd, Fun K "times" "times" s_times (He.ga K "times") fd ∧ Binds K fd ["one", "other"] [] ∧ ∀ (s : Shared) (us : List Value), us.length = (["one", "other"] : List Str).length → BindsTo s fd ⟨us, []⟩ ((["one", "other"] : List Str).zip us) := fnB (c.d.def_ 3 (d := d_times)) fun _ _ _ _ _ _ us hl => match us, hl with | [_, _], _ => rfl
theorem fn_over (c : Says K) : ∃ fd, Fun K "over" "over" s_over (He.ga K "over") fd ∧ Binds K fd ["one", "other"] [] ∧ ∀ (s : Shared) (us : List Value), us.length = (["one", "other"] : List Str).length → BindsTo s fd ⟨us, []⟩ ((["one", "other"] : List Str).zip us) := fnB (c.d.def_ 4 (d := d_over)) fun _ _ _ _ _ _ us hl => match us, hl with | [_, _], _ => rfl
theorem fn_is_below (c : Says K) : ∃ fd, Fun K "is_below" "is_below" s_is_below (He.ga K "is_below") fd ∧ Binds K fd ["one", "other"] [] ∧ ∀ (s : Shared) (us : List Value), us.length = (["one", "other"] : List Str).length → BindsTo s fd ⟨us, []⟩ ((["one", "other"] : List Str).zip us) := fnB (c.d.def_ 5 (d := d_is_below)) fun _ _ _ _ _ _ us hl => match us, hl with | [_, _], _ => rfl
theorem fn_reached (c : Says K) : ∃ fd, Fun K "reached" "reached" s_reached (He.ga K "reached") fd ∧ Binds K fd ["chain", "start"] [] ∧ ∀ (s : Shared) (us : List Value), us.length = (["chain", "start"] : List Str).length → BindsTo s fd ⟨us, []⟩ ((["chain", "start"] : List Str).zip us) := fnB (c.d.def_ 6 (d := d_reached)) fun _ _ _ _ _ _ us hl => match us, hl with | [_, _], _ => rfl
theorem fn_recurrent (c : Says K) : ∃ fd, Fun K "recurrent" "recurrent" s_recurrent (He.ga K "recurrent") fd ∧ Binds K fd ["chain"] [] ∧ ∀ (s : Shared) (us : List Value), us.length = (["chain"] : List Str).length → BindsTo s fd ⟨us, []⟩ ((["chain"] : List Str).zip us) := fnB (c.d.def_ 7 (d := d_recurrent)) fun _ _ _ _ _ _ us hl => match us, hl with | [_], _ => rfl
theorem fn_has_single_class (c : Says K) : ∃ fd, Fun K "has_single_class" "has_single_class" s_has_single_class (He.ga K "has_single_class") fd ∧ Binds K fd ["chain"] [] ∧ ∀ (s : Shared) (us : List Value), us.length = (["chain"] : List Str).length → BindsTo s fd ⟨us, []⟩ ((["chain"] : List Str).zip us) := fnB (c.d.def_ 8 (d := d_has_single_class)) fun _ _ _ _ _ _ us hl => match us, hl with | [_], _ => rfl
theorem fn_can_meet (c : Says K) : ∃ fd, Fun K "can_meet" "can_meet" s_can_meet (He.ga K "can_meet") fd ∧ Binds K fd ["chain", "one", "other"] [] ∧ ∀ (s : Shared) (us : List Value), us.length = (["chain", "one", "other"] : List Str).length → BindsTo s fd ⟨us, []⟩ ((["chain", "one", "other"] : List Str).zip us) := fnB (c.d.def_ 9 (d := d_can_meet)) fun _ _ _ _ _ _ us hl => match us, hl with | [_, _, _], _ => rfl
theorem fn_is_periodic (c : Says K) : ∃ fd, Fun K "is_periodic" "is_periodic" s_is_periodic (He.ga K "is_periodic") fd ∧ Binds K fd ["chain"] [] ∧ ∀ (s : Shared) (us : List Value), us.length = (["chain"] : List Str).length → BindsTo s fd ⟨us, []⟩ ((["chain"] : List Str).zip us) := fnB (c.d.def_ 10 (d := d_is_periodic)) fun _ _ _ _ _ _ us hl => match us, hl with | [_], _ => rfl
theorem fn_leads_to (c : Says K) : ∃ fd, Fun K "leads_to" "leads_to" s_leads_to (He.ga K "leads_to") fd ∧ Binds K fd ["targets", "state", "root"] [] ∧ ∀ (s : Shared) (us : List Value), us.length = (["targets", "state", "root"] : List Str).length → BindsTo s fd ⟨us, []⟩ ((["targets", "state", "root"] : List Str).zip us) := fnB (c.d.def_ 11 (d := d_leads_to)) fun _ _ _ _ _ _ us hl => match us, hl with | [_, _, _], _ => rfl
theorem fn_tree_weight (c : Says K) : ∃ fd, Fun K "tree_weight" "tree_weight" s_tree_weight (He.ga K "tree_weight") fd ∧ Binds K fd ["chain", "weights", "root"] [] ∧ ∀ (s : Shared) (us : List Value), us.length = (["chain", "weights", "root"] : List Str).length → BindsTo s fd ⟨us, []⟩ ((["chain", "weights", "root"] : List Str).zip us) := fnB (c.d.def_ 12 (d := d_tree_weight)) fun _ _ _ _ _ _ us hl => match us, hl with | [_, _, _], _ => rfl
theorem fn_Drawn___init__ (c : Says K) : ∃ fd, Fun K "__init__" "Drawn.__init__" s_Drawn___init__ (He.ma K (He.ga K "Drawn") "__init__") fd ∧ Binds K fd ["self", "chain", "bias"] [] ∧ ∀ (s : Shared) (us : List Value), us.length = (["self", "chain", "bias"] : List Str).length → BindsTo s fd ⟨us, []⟩ ((["self", "chain", "bias"] : List Str).zip us) := fnB (c.d.def_ 13 (d := d_Drawn___init__)) fun _ _ _ _ _ _ us hl => match us, hl with | [_, _, _], _ => rfl
theorem fn_Drawn_stationary (c : Says K) : ∃ fd, Fun K "stationary" "Drawn.stationary" s_Drawn_stationary (He.ma K (He.ga K "Drawn") "stationary") fd ∧ Binds K fd ["self"] [] ∧ ∀ (s : Shared) (us : List Value), us.length = (["self"] : List Str).length → BindsTo s fd ⟨us, []⟩ ((["self"] : List Str).zip us) := fnB (c.d.def_ 14 (d := d_Drawn_stationary)) fun _ _ _ _ _ _ us hl => match us, hl with | [_], _ => rfl
theorem fn_Drawn_distribution (c : Says K) : ∃ fd, Fun K "distribution" "Drawn.distribution" s_Drawn_distribution (He.ma K (He.ga K "Drawn") "distribution") fd ∧ Binds K fd ["self", "start", "steps"] [] ∧ ∀ (s : Shared) (us : List Value), us.length = (["self", "start", "steps"] : List Str).length → BindsTo s fd ⟨us, []⟩ ((["self", "start", "steps"] : List Str).zip us) := fnB (c.d.def_ 15 (d := d_Drawn_distribution)) fun _ _ _ _ _ _ us hl => match us, hl with | [_, _, _], _ => rfl
theorem fn_Drawn_probability_of (c : Says K) : ∃ fd, Fun K "probability_of" "Drawn.probability_of" s_Drawn_probability_of (He.ma K (He.ga K "Drawn") "probability_of") fd ∧ Binds K fd ["self", "word"] [] ∧ ∀ (s : Shared) (us : List Value), us.length = (["self", "word"] : List Str).length → BindsTo s fd ⟨us, []⟩ ((["self", "word"] : List Str).zip us) := fnB (c.d.def_ 16 (d := d_Drawn_probability_of)) fun _ _ _ _ _ _ us hl => match us, hl with | [_, _], _ => rfl
theorem fn_Drawn_state_behind (c : Says K) : ∃ fd, Fun K "state_behind" "Drawn.state_behind" s_Drawn_state_behind (He.ma K (He.ga K "Drawn") "state_behind") fd ∧ Binds K fd ["self", "start", "word"] [] ∧ ∀ (s : Shared) (us : List Value), us.length = (["self", "start", "word"] : List Str).length → BindsTo s fd ⟨us, []⟩ ((["self", "start", "word"] : List Str).zip us) := fnB (c.d.def_ 17 (d := d_Drawn_state_behind)) fun _ _ _ _ _ _ us hl => match us, hl with | [_, _, _], _ => rfl
theorem fn_Rule___init__ (c : Says K) : ∃ fd, Fun K "__init__" "Rule.__init__" s_Rule___init__ (He.ma K (He.ga K "Rule") "__init__") fd ∧ Binds K fd ["self", "drawn", "start"] [] ∧ ∀ (s : Shared) (us : List Value), us.length = (["self", "drawn", "start"] : List Str).length → BindsTo s fd ⟨us, []⟩ ((["self", "drawn", "start"] : List Str).zip us) := fnB (c.d.def_ 18 (d := d_Rule___init__)) fun _ _ _ _ _ _ us hl => match us, hl with | [_, _, _], _ => rfl
theorem fn_Rule_coverage (c : Says K) : ∃ fd, Fun K "coverage" "Rule.coverage" s_Rule_coverage (He.ma K (He.ga K "Rule") "coverage") fd ∧ Binds K fd ["self", "steps"] [] ∧ ∀ (s : Shared) (us : List Value), us.length = (["self", "steps"] : List Str).length → BindsTo s fd ⟨us, []⟩ ((["self", "steps"] : List Str).zip us) := fnB (c.d.def_ 19 (d := d_Rule_coverage)) fun _ _ _ _ _ _ us hl => match us, hl with | [_, _], _ => rfl
theorem fn_Rule_separation (c : Says K) : ∃ fd, Fun K "separation" "Rule.separation" s_Rule_separation (He.ma K (He.ga K "Rule") "separation") fd ∧ Binds K fd ["self", "steps"] [] ∧ ∀ (s : Shared) (us : List Value), us.length = (["self", "steps"] : List Str).length → BindsTo s fd ⟨us, []⟩ ((["self", "steps"] : List Str).zip us) := fnB (c.d.def_ 20 (d := d_Rule_separation)) fun _ _ _ _ _ _ us hl => match us, hl with | [_, _], _ => rfl
theorem fn_Rule_unstopped (c : Says K) : ∃ fd, Fun K "unstopped" "Rule.unstopped" s_Rule_unstopped (He.ma K (He.ga K "Rule") "unstopped") fd ∧ Binds K fd ["self", "steps"] [] ∧ ∀ (s : Shared) (us : List Value), us.length = (["self", "steps"] : List Str).length → BindsTo s fd ⟨us, []⟩ ((["self", "steps"] : List Str).zip us) := fnB (c.d.def_ 21 (d := d_Rule_unstopped)) fun _ _ _ _ _ _ us hl => match us, hl with | [_, _], _ => rfl
theorem fn_Rule_stops (c : Says K) : ∃ fd, Fun K "stops" "Rule.stops" s_Rule_stops (He.ma K (He.ga K "Rule") "stops") fd ∧ Binds K fd ["self", "steps"] [] ∧ ∀ (s : Shared) (us : List Value), us.length = (["self", "steps"] : List Str).length → BindsTo s fd ⟨us, []⟩ ((["self", "steps"] : List Str).zip us) := fnB (c.d.def_ 22 (d := d_Rule_stops)) fun _ _ _ _ _ _ us hl => match us, hl with | [_, _], _ => rfl
theorem fn_Rule_stop_at (c : Says K) : ∃ fd, Fun K "stop_at" "Rule.stop_at" s_Rule_stop_at (He.ma K (He.ga K "Rule") "stop_at") fd ∧ Binds K fd ["self", "word"] [] ∧ ∀ (s : Shared) (us : List Value), us.length = (["self", "word"] : List Str).length → BindsTo s fd ⟨us, []⟩ ((["self", "word"] : List Str).zip us) := fnB (c.d.def_ 23 (d := d_Rule_stop_at)) fun _ _ _ _ _ _ us hl => match us, hl with | [_, _], _ => rfl
theorem fn_Rule_may_continue (c : Says K) : ∃ fd, Fun K "may_continue" "Rule.may_continue" s_Rule_may_continue (He.ma K (He.ga K "Rule") "may_continue") fd ∧ Binds K fd ["self", "word"] [] ∧ ∀ (s : Shared) (us : List Value), us.length = (["self", "word"] : List Str).length → BindsTo s fd ⟨us, []⟩ ((["self", "word"] : List Str).zip us) := fnB (c.d.def_ 24 (d := d_Rule_may_continue)) fun _ _ _ _ _ _ us hl => match us, hl with | [_, _], _ => rfl
theorem fn_Refused___init__ (c : Says K) : ∃ fd, Fun K "__init__" "Refused.__init__" s_Refused___init__ (He.ma K (He.ga K "Refused") "__init__") fd ∧ Binds K fd ["self", "kind", "message"] [] ∧ ∀ (s : Shared) (us : List Value), us.length = (["self", "kind", "message"] : List Str).length → BindsTo s fd ⟨us, []⟩ ((["self", "kind", "message"] : List Str).zip us) := fnB (c.d.def_ 25 (d := d_Refused___init__)) fun _ _ _ _ _ _ us hl => match us, hl with | [_, _, _], _ => rfl
theorem fn_refuse (c : Says K) : ∃ fd, Fun K "refuse" "refuse" s_refuse (He.ga K "refuse") fd ∧ Binds K fd ["kind", "message"] [] ∧ ∀ (s : Shared) (us : List Value), us.length = (["kind", "message"] : List Str).length → BindsTo s fd ⟨us, []⟩ ((["kind", "message"] : List Str).zip us) := fnB (c.d.def_ 26 (d := d_refuse)) fun _ _ _ _ _ _ us hl => match us, hl with | [_, _], _ => rfl
theorem fn_is_integer (c : Says K) : ∃ fd, Fun K "is_integer" "is_integer" s_is_integer (He.ga K "is_integer") fd ∧ Binds K fd ["value"] [] ∧ ∀ (s : Shared) (us : List Value), us.length = (["value"] : List Str).length → BindsTo s fd ⟨us, []⟩ ((["value"] : List Str).zip us) := fnB (c.d.def_ 27 (d := d_is_integer)) fun _ _ _ _ _ _ us hl => match us, hl with | [_], _ => rfl
theorem fn_Nothing___init__ (c : Says K) : ∃ fd, Fun K "__init__" "Nothing.__init__" s_Nothing___init__ (He.ma K (He.ga K "Nothing") "__init__") fd ∧ Binds K fd ["self"] [] ∧ ∀ (s : Shared) (us : List Value), us.length = (["self"] : List Str).length → BindsTo s fd ⟨us, []⟩ ((["self"] : List Str).zip us) := fnB (c.d.def_ 28 (d := d_Nothing___init__)) fun _ _ _ _ _ _ us hl => match us, hl with | [_], _ => rfl
theorem fn_Text___init__ (c : Says K) : ∃ fd, Fun K "__init__" "Text.__init__" s_Text___init__ (He.ma K (He.ga K "Text") "__init__") fd ∧ Binds K fd ["self", "octets"] [] ∧ ∀ (s : Shared) (us : List Value), us.length = (["self", "octets"] : List Str).length → BindsTo s fd ⟨us, []⟩ ((["self", "octets"] : List Str).zip us) := fnB (c.d.def_ 29 (d := d_Text___init__)) fun _ _ _ _ _ _ us hl => match us, hl with | [_, _], _ => rfl
theorem fn_Record___init__ (c : Says K) : ∃ fd, Fun K "__init__" "Record.__init__" s_Record___init__ (He.ma K (He.ga K "Record") "__init__") fd ∧ Binds K fd ["self", "members"] [] ∧ ∀ (s : Shared) (us : List Value), us.length = (["self", "members"] : List Str).length → BindsTo s fd ⟨us, []⟩ ((["self", "members"] : List Str).zip us) := fnB (c.d.def_ 30 (d := d_Record___init__)) fun _ _ _ _ _ _ us hl => match us, hl with | [_, _], _ => rfl
theorem fn_octets_of (c : Says K) : ∃ fd, Fun K "octets_of" "octets_of" s_octets_of (He.ga K "octets_of") fd ∧ Binds K fd ["word"] [] ∧ ∀ (s : Shared) (us : List Value), us.length = (["word"] : List Str).length → BindsTo s fd ⟨us, []⟩ ((["word"] : List Str).zip us) := fnB (c.d.def_ 31 (d := d_octets_of)) fun _ _ _ _ _ _ us hl => match us, hl with | [_], _ => rfl
theorem fn_record (c : Says K) : ∃ fd, Fun K "record" "record" s_record (He.ga K "record") fd ∧ Binds K fd ["names", "values"] [] ∧ ∀ (s : Shared) (us : List Value), us.length = (["names", "values"] : List Str).length → BindsTo s fd ⟨us, []⟩ ((["names", "values"] : List Str).zip us) := fnB (c.d.def_ 32 (d := d_record)) fun _ _ _ _ _ _ us hl => match us, hl with | [_, _], _ => rfl
theorem fn_number_in (c : Says K) : ∃ fd, Fun K "number_in" "number_in" s_number_in (He.ga K "number_in") fd ∧ Binds K fd ["octets"] [] ∧ ∀ (s : Shared) (us : List Value), us.length = (["octets"] : List Str).length → BindsTo s fd ⟨us, []⟩ ((["octets"] : List Str).zip us) := fnB (c.d.def_ 33 (d := d_number_in)) fun _ _ _ _ _ _ us hl => match us, hl with | [_], _ => rfl
theorem fn_number_out (c : Says K) : ∃ fd, Fun K "number_out" "number_out" s_number_out (He.ga K "number_out") fd ∧ Binds K fd ["number", "many"] [] ∧ ∀ (s : Shared) (us : List Value), us.length = (["number", "many"] : List Str).length → BindsTo s fd ⟨us, []⟩ ((["number", "many"] : List Str).zip us) := fnB (c.d.def_ 34 (d := d_number_out)) fun _ _ _ _ _ _ us hl => match us, hl with | [_, _], _ => rfl
theorem fn_Row___init__ (c : Says K) : ∃ fd, Fun K "__init__" "Row.__init__" s_Row___init__ (He.ma K (He.ga K "Row") "__init__") fd ∧ Binds K fd ["self", "octets"] [] ∧ ∀ (s : Shared) (us : List Value), us.length = (["self", "octets"] : List Str).length → BindsTo s fd ⟨us, []⟩ ((["self", "octets"] : List Str).zip us) := fnB (c.d.def_ 35 (d := d_Row___init__)) fun _ _ _ _ _ _ us hl => match us, hl with | [_, _], _ => rfl
theorem fn_Row_take (c : Says K) : ∃ fd, Fun K "take" "Row.take" s_Row_take (He.ma K (He.ga K "Row") "take") fd ∧ Binds K fd ["self", "many"] [] ∧ ∀ (s : Shared) (us : List Value), us.length = (["self", "many"] : List Str).length → BindsTo s fd ⟨us, []⟩ ((["self", "many"] : List Str).zip us) := fnB (c.d.def_ 36 (d := d_Row_take)) fun _ _ _ _ _ _ us hl => match us, hl with | [_, _], _ => rfl
theorem fn_Row_count (c : Says K) : ∃ fd, Fun K "count" "Row.count" s_Row_count (He.ma K (He.ga K "Row") "count") fd ∧ Binds K fd ["self"] [] ∧ ∀ (s : Shared) (us : List Value), us.length = (["self"] : List Str).length → BindsTo s fd ⟨us, []⟩ ((["self"] : List Str).zip us) := fnB (c.d.def_ 37 (d := d_Row_count)) fun _ _ _ _ _ _ us hl => match us, hl with | [_], _ => rfl
theorem fn_Row_one_value (c : Says K) : ∃ fd, Fun K "one_value" "Row.one_value" s_Row_one_value (He.ma K (He.ga K "Row") "one_value") fd ∧ Binds K fd ["self"] [] ∧ ∀ (s : Shared) (us : List Value), us.length = (["self"] : List Str).length → BindsTo s fd ⟨us, []⟩ ((["self"] : List Str).zip us) := fnB (c.d.def_ 38 (d := d_Row_one_value)) fun _ _ _ _ _ _ us hl => match us, hl with | [_], _ => rfl
theorem fn_read_request (c : Says K) : ∃ fd, Fun K "read_request" "read_request" s_read_request (He.ga K "read_request") fd ∧ Binds K fd ["octets"] [] ∧ ∀ (s : Shared) (us : List Value), us.length = (["octets"] : List Str).length → BindsTo s fd ⟨us, []⟩ ((["octets"] : List Str).zip us) := fnB (c.d.def_ 39 (d := d_read_request)) fun _ _ _ _ _ _ us hl => match us, hl with | [_], _ => rfl
theorem fn_text_out (c : Says K) : ∃ fd, Fun K "text_out" "text_out" s_text_out (He.ga K "text_out") fd ∧ Binds K fd ["octets"] [] ∧ ∀ (s : Shared) (us : List Value), us.length = (["octets"] : List Str).length → BindsTo s fd ⟨us, []⟩ ((["octets"] : List Str).zip us) := fnB (c.d.def_ 40 (d := d_text_out)) fun _ _ _ _ _ _ us hl => match us, hl with | [_], _ => rfl
theorem fn_value_out (c : Says K) : ∃ fd, Fun K "value_out" "value_out" s_value_out (He.ga K "value_out") fd ∧ Binds K fd ["value"] [] ∧ ∀ (s : Shared) (us : List Value), us.length = (["value"] : List Str).length → BindsTo s fd ⟨us, []⟩ ((["value"] : List Str).zip us) := fnB (c.d.def_ 41 (d := d_value_out)) fun _ _ _ _ _ _ us hl => match us, hl with | [_], _ => rfl
theorem fn_text_of (c : Says K) : ∃ fd, Fun K "text_of" "text_of" s_text_of (He.ga K "text_of") fd ∧ Binds K fd ["word"] [] ∧ ∀ (s : Shared) (us : List Value), us.length = (["word"] : List Str).length → BindsTo s fd ⟨us, []⟩ ((["word"] : List Str).zip us) := fnB (c.d.def_ 42 (d := d_text_of)) fun _ _ _ _ _ _ us hl => match us, hl with | [_], _ => rfl
theorem fn_is_text (c : Says K) : ∃ fd, Fun K "is_text" "is_text" s_is_text (He.ga K "is_text") fd ∧ Binds K fd ["value", "signs"] [] ∧ ∀ (s : Shared) (us : List Value), us.length = (["value", "signs"] : List Str).length → BindsTo s fd ⟨us, []⟩ ((["value", "signs"] : List Str).zip us) := fnB (c.d.def_ 43 (d := d_is_text)) fun _ _ _ _ _ _ us hl => match us, hl with | [_, _], _ => rfl
theorem fn_letter_in (c : Says K) : ∃ fd, Fun K "letter_in" "letter_in" s_letter_in (He.ga K "letter_in") fd ∧ Binds K fd ["value"] [] ∧ ∀ (s : Shared) (us : List Value), us.length = (["value"] : List Str).length → BindsTo s fd ⟨us, []⟩ ((["value"] : List Str).zip us) := fnB (c.d.def_ 44 (d := d_letter_in)) fun _ _ _ _ _ _ us hl => match us, hl with | [_], _ => rfl
theorem fn_Walk___init__ (c : Says K) : ∃ fd, Fun K "__init__" "Walk.__init__" s_Walk___init__ (He.ma K (He.ga K "Walk") "__init__") fd ∧ Binds K fd ["self", "rule"] [] ∧ ∀ (s : Shared) (us : List Value), us.length = (["self", "rule"] : List Str).length → BindsTo s fd ⟨us, []⟩ ((["self", "rule"] : List Str).zip us) := fnB (c.d.def_ 45 (d := d_Walk___init__)) fun _ _ _ _ _ _ us hl => match us, hl with | [_, _], _ => rfl
theorem fn_Walk_is_running (c : Says K) : ∃ fd, Fun K "is_running" "Walk.is_running" s_Walk_is_running (He.ma K (He.ga K "Walk") "is_running") fd ∧ Binds K fd ["self"] [] ∧ ∀ (s : Shared) (us : List Value), us.length = (["self"] : List Str).length → BindsTo s fd ⟨us, []⟩ ((["self"] : List Str).zip us) := fnB (c.d.def_ 46 (d := d_Walk_is_running)) fun _ _ _ _ _ _ us hl => match us, hl with | [_], _ => rfl
theorem fn_Walk_state (c : Says K) : ∃ fd, Fun K "state" "Walk.state" s_Walk_state (He.ma K (He.ga K "Walk") "state") fd ∧ Binds K fd ["self"] [] ∧ ∀ (s : Shared) (us : List Value), us.length = (["self"] : List Str).length → BindsTo s fd ⟨us, []⟩ ((["self"] : List Str).zip us) := fnB (c.d.def_ 47 (d := d_Walk_state)) fun _ _ _ _ _ _ us hl => match us, hl with | [_], _ => rfl
theorem fn_Walk_report (c : Says K) : ∃ fd, Fun K "report" "Walk.report" s_Walk_report (He.ma K (He.ga K "Walk") "report") fd ∧ Binds K fd ["self"] [] ∧ ∀ (s : Shared) (us : List Value), us.length = (["self"] : List Str).length → BindsTo s fd ⟨us, []⟩ ((["self"] : List Str).zip us) := fnB (c.d.def_ 48 (d := d_Walk_report)) fun _ _ _ _ _ _ us hl => match us, hl with | [_], _ => rfl
theorem fn_Walk_go_on (c : Says K) : ∃ fd, Fun K "go_on" "Walk.go_on" s_Walk_go_on (He.ma K (He.ga K "Walk") "go_on") fd ∧ Binds K fd ["self", "value"] [] ∧ ∀ (s : Shared) (us : List Value), us.length = (["self", "value"] : List Str).length → BindsTo s fd ⟨us, []⟩ ((["self", "value"] : List Str).zip us) := fnB (c.d.def_ 49 (d := d_Walk_go_on)) fun _ _ _ _ _ _ us hl => match us, hl with | [_, _], _ => rfl
theorem fn_Walk_signal (c : Says K) : ∃ fd, Fun K "signal" "Walk.signal" s_Walk_signal (He.ma K (He.ga K "Walk") "signal") fd ∧ Binds K fd ["self", "value"] [] ∧ ∀ (s : Shared) (us : List Value), us.length = (["self", "value"] : List Str).length → BindsTo s fd ⟨us, []⟩ ((["self", "value"] : List Str).zip us) := fnB (c.d.def_ 50 (d := d_Walk_signal)) fun _ _ _ _ _ _ us hl => match us, hl with | [_, _], _ => rfl
theorem fn_words_to (c : Says K) : ∃ fd, Fun K "words_to" "words_to" s_words_to (He.ga K "words_to") fd ∧ Binds K fd ["most"] [] ∧ ∀ (s : Shared) (us : List Value), us.length = (["most"] : List Str).length → BindsTo s fd ⟨us, []⟩ ((["most"] : List Str).zip us) := fnB (c.d.def_ 51 (d := d_words_to)) fun _ _ _ _ _ _ us hl => match us, hl with | [_], _ => rfl
theorem fn_Enumeration___init__ (c : Says K) : ∃ fd, Fun K "__init__" "Enumeration.__init__" s_Enumeration___init__ (He.ma K (He.ga K "Enumeration") "__init__") fd ∧ Binds K fd ["self", "rule", "most"] [] ∧ ∀ (s : Shared) (us : List Value), us.length = (["self", "rule", "most"] : List Str).length → BindsTo s fd ⟨us, []⟩ ((["self", "rule", "most"] : List Str).zip us) := fnB (c.d.def_ 52 (d := d_Enumeration___init__)) fun _ _ _ _ _ _ us hl => match us, hl with | [_, _, _], _ => rfl
theorem fn_Enumeration_advance (c : Says K) : ∃ fd, Fun K "advance" "Enumeration.advance" s_Enumeration_advance (He.ma K (He.ga K "Enumeration") "advance") fd ∧ Binds K fd ["self"] [] ∧ ∀ (s : Shared) (us : List Value), us.length = (["self"] : List Str).length → BindsTo s fd ⟨us, []⟩ ((["self"] : List Str).zip us) := fnB (c.d.def_ 53 (d := d_Enumeration_advance)) fun _ _ _ _ _ _ us hl => match us, hl with | [_], _ => rfl
theorem fn_Enumeration_go_on (c : Says K) : ∃ fd, Fun K "go_on" "Enumeration.go_on" s_Enumeration_go_on (He.ma K (He.ga K "Enumeration") "go_on") fd ∧ Binds K fd ["self"] [] ∧ ∀ (s : Shared) (us : List Value), us.length = (["self"] : List Str).length → BindsTo s fd ⟨us, []⟩ ((["self"] : List Str).zip us) := fnB (c.d.def_ 54 (d := d_Enumeration_go_on)) fun _ _ _ _ _ _ us hl => match us, hl with | [_], _ => rfl
theorem fn_Enumeration_signal (c : Says K) : ∃ fd, Fun K "signal" "Enumeration.signal" s_Enumeration_signal (He.ma K (He.ga K "Enumeration") "signal") fd ∧ Binds K fd ["self", "value"] [] ∧ ∀ (s : Shared) (us : List Value), us.length = (["self", "value"] : List Str).length → BindsTo s fd ⟨us, []⟩ ((["self", "value"] : List Str).zip us) := fnB (c.d.def_ 55 (d := d_Enumeration_signal)) fun _ _ _ _ _ _ us hl => match us, hl with | [_, _], _ => rfl
theorem fn_Enumeration_finish (c : Says K) : ∃ fd, Fun K "finish" "Enumeration.finish" s_Enumeration_finish (He.ma K (He.ga K "Enumeration") "finish") fd ∧ Binds K fd ["self", "value"] [] ∧ ∀ (s : Shared) (us : List Value), us.length = (["self", "value"] : List Str).length → BindsTo s fd ⟨us, []⟩ ((["self", "value"] : List Str).zip us) := fnB (c.d.def_ 56 (d := d_Enumeration_finish)) fun _ _ _ _ _ _ us hl => match us, hl with | [_, _], _ => rfl
theorem fn_Enumeration_collect (c : Says K) : ∃ fd, Fun K "collect" "Enumeration.collect" s_Enumeration_collect (He.ma K (He.ga K "Enumeration") "collect") fd ∧ Binds K fd ["self"] [] ∧ ∀ (s : Shared) (us : List Value), us.length = (["self"] : List Str).length → BindsTo s fd ⟨us, []⟩ ((["self"] : List Str).zip us) := fnB (c.d.def_ 57 (d := d_Enumeration_collect)) fun _ _ _ _ _ _ us hl => match us, hl with | [_], _ => rfl
theorem fn_Slots___init__ (c : Says K) : ∃ fd, Fun K "__init__" "Slots.__init__" s_Slots___init__ (He.ma K (He.ga K "Slots") "__init__") fd ∧ Binds K fd ["self"] [] ∧ ∀ (s : Shared) (us : List Value), us.length = (["self"] : List Str).length → BindsTo s fd ⟨us, []⟩ ((["self"] : List Str).zip us) := fnB (c.d.def_ 58 (d := d_Slots___init__)) fun _ _ _ _ _ _ us hl => match us, hl with | [_], _ => rfl
theorem fn_is_state_number (c : Says K) : ∃ fd, Fun K "is_state_number" "is_state_number" s_is_state_number (He.ga K "is_state_number") fd ∧ Binds K fd ["value", "many"] [] ∧ ∀ (s : Shared) (us : List Value), us.length = (["value", "many"] : List Str).length → BindsTo s fd ⟨us, []⟩ ((["value", "many"] : List Str).zip us) := fnB (c.d.def_ 59 (d := d_is_state_number)) fun _ _ _ _ _ _ us hl => match us, hl with | [_, _], _ => rfl
theorem fn_chain_in (c : Says K) : ∃ fd, Fun K "chain_in" "chain_in" s_chain_in (He.ga K "chain_in") fd ∧ Binds K fd ["value"] [] ∧ ∀ (s : Shared) (us : List Value), us.length = (["value"] : List Str).length → BindsTo s fd ⟨us, []⟩ ((["value"] : List Str).zip us) := fnB (c.d.def_ 60 (d := d_chain_in)) fun _ _ _ _ _ _ us hl => match us, hl with | [_], _ => rfl
theorem fn_is_fraction (c : Says K) : ∃ fd, Fun K "is_fraction" "is_fraction" s_is_fraction (He.ga K "is_fraction") fd ∧ Binds K fd ["value", "most"] [] ∧ ∀ (s : Shared) (us : List Value), us.length = (["value", "most"] : List Str).length → BindsTo s fd ⟨us, []⟩ ((["value", "most"] : List Str).zip us) := fnB (c.d.def_ 61 (d := d_is_fraction)) fun _ _ _ _ _ _ us hl => match us, hl with | [_, _], _ => rfl
theorem fn_drawn_in (c : Says K) : ∃ fd, Fun K "drawn_in" "drawn_in" s_drawn_in (He.ga K "drawn_in") fd ∧ Binds K fd ["args"] [] ∧ ∀ (s : Shared) (us : List Value), us.length = (["args"] : List Str).length → BindsTo s fd ⟨us, []⟩ ((["args"] : List Str).zip us) := fnB (c.d.def_ 62 (d := d_drawn_in)) fun _ _ _ _ _ _ us hl => match us, hl with | [_], _ => rfl
theorem fn_started_in (c : Says K) : ∃ fd, Fun K "started_in" "started_in" s_started_in (He.ga K "started_in") fd ∧ Binds K fd ["args"] [] ∧ ∀ (s : Shared) (us : List Value), us.length = (["args"] : List Str).length → BindsTo s fd ⟨us, []⟩ ((["args"] : List Str).zip us) := fnB (c.d.def_ 63 (d := d_started_in)) fun _ _ _ _ _ _ us hl => match us, hl with | [_], _ => rfl
theorem fn_rule_in (c : Says K) : ∃ fd, Fun K "rule_in" "rule_in" s_rule_in (He.ga K "rule_in") fd ∧ Binds K fd ["args"] [] ∧ ∀ (s : Shared) (us : List Value), us.length = (["args"] : List Str).length → BindsTo s fd ⟨us, []⟩ ((["args"] : List Str).zip us) := fnB (c.d.def_ 64 (d := d_rule_in)) fun _ _ _ _ _ _ us hl => match us, hl with | [_], _ => rfl
theorem fn_check_steps (c : Says K) : ∃ fd, Fun K "check_steps" "check_steps" s_check_steps (He.ga K "check_steps") fd ∧ Binds K fd ["value", "name", "most"] [] ∧ ∀ (s : Shared) (us : List Value), us.length = (["value", "name", "most"] : List Str).length → BindsTo s fd ⟨us, []⟩ ((["value", "name", "most"] : List Str).zip us) := fnB (c.d.def_ 65 (d := d_check_steps)) fun _ _ _ _ _ _ us hl => match us, hl with | [_, _, _], _ => rfl
theorem fn_told_fractions (c : Says K) : ∃ fd, Fun K "told_fractions" "told_fractions" s_told_fractions (He.ga K "told_fractions") fd ∧ Binds K fd ["rows"] [] ∧ ∀ (s : Shared) (us : List Value), us.length = (["rows"] : List Str).length → BindsTo s fd ⟨us, []⟩ ((["rows"] : List Str).zip us) := fnB (c.d.def_ 66 (d := d_told_fractions)) fun _ _ _ _ _ _ us hl => match us, hl with | [_], _ => rfl
theorem fn_stationary_distribution (c : Says K) : ∃ fd, Fun K "stationary_distribution" "stationary_distribution" s_stationary_distribution (He.ga K "stationary_distribution") fd ∧ Binds K fd ["slots", "args"] [] ∧ ∀ (s : Shared) (us : List Value), us.length = (["slots", "args"] : List Str).length → BindsTo s fd ⟨us, []⟩ ((["slots", "args"] : List Str).zip us) := fnB (c.d.def_ 67 (d := d_stationary_distribution)) fun _ _ _ _ _ _ us hl => match us, hl with | [_, _], _ => rfl
theorem fn_distribution (c : Says K) : ∃ fd, Fun K "distribution" "distribution" s_distribution (He.ga K "distribution") fd ∧ Binds K fd ["slots", "args"] [] ∧ ∀ (s : Shared) (us : List Value), us.length = (["slots", "args"] : List Str).length → BindsTo s fd ⟨us, []⟩ ((["slots", "args"] : List Str).zip us) := fnB (c.d.def_ 68 (d := d_distribution)) fun _ _ _ _ _ _ us hl => match us, hl with | [_, _], _ => rfl
theorem fn_is_ergodic (c : Says K) : ∃ fd, Fun K "is_ergodic" "is_ergodic" s_is_ergodic (He.ga K "is_ergodic") fd ∧ Binds K fd ["slots", "args"] [] ∧ ∀ (s : Shared) (us : List Value), us.length = (["slots", "args"] : List Str).length → BindsTo s fd ⟨us, []⟩ ((["slots", "args"] : List Str).zip us) := fnB (c.d.def_ 69 (d := d_is_ergodic)) fun _ _ _ _ _ _ us hl => match us, hl with | [_, _], _ => rfl
theorem fn_rule_with_steps (c : Says K) : ∃ fd, Fun K "rule_with_steps" "rule_with_steps" s_rule_with_steps (He.ga K "rule_with_steps") fd ∧ Binds K fd ["args"] [] ∧ ∀ (s : Shared) (us : List Value), us.length = (["args"] : List Str).length → BindsTo s fd ⟨us, []⟩ ((["args"] : List Str).zip us) := fnB (c.d.def_ 70 (d := d_rule_with_steps)) fun _ _ _ _ _ _ us hl => match us, hl with | [_], _ => rfl
theorem fn_separation (c : Says K) : ∃ fd, Fun K "separation" "separation" s_separation (He.ga K "separation") fd ∧ Binds K fd ["slots", "args"] [] ∧ ∀ (s : Shared) (us : List Value), us.length = (["slots", "args"] : List Str).length → BindsTo s fd ⟨us, []⟩ ((["slots", "args"] : List Str).zip us) := fnB (c.d.def_ 71 (d := d_separation)) fun _ _ _ _ _ _ us hl => match us, hl with | [_, _], _ => rfl
theorem fn_stop_probabilities (c : Says K) : ∃ fd, Fun K "stop_probabilities" "stop_probabilities" s_stop_probabilities (He.ga K "stop_probabilities") fd ∧ Binds K fd ["slots", "args"] [] ∧ ∀ (s : Shared) (us : List Value), us.length = (["slots", "args"] : List Str).length → BindsTo s fd ⟨us, []⟩ ((["slots", "args"] : List Str).zip us) := fnB (c.d.def_ 72 (d := d_stop_probabilities)) fun _ _ _ _ _ _ us hl => match us, hl with | [_, _], _ => rfl
theorem fn_unstopped_probabilities (c : Says K) : ∃ fd, Fun K "unstopped_probabilities" "unstopped_probabilities" s_unstopped_probabilities (He.ga K "unstopped_probabilities") fd ∧ Binds K fd ["slots", "args"] [] ∧ ∀ (s : Shared) (us : List Value), us.length = (["slots", "args"] : List Str).length → BindsTo s fd ⟨us, []⟩ ((["slots", "args"] : List Str).zip us) := fnB (c.d.def_ 73 (d := d_unstopped_probabilities)) fun _ _ _ _ _ _ us hl => match us, hl with | [_, _], _ => rfl
theorem fn_mixing_time (c : Says K) : ∃ fd, Fun K "mixing_time" "mixing_time" s_mixing_time (He.ga K "mixing_time") fd ∧ Binds K fd ["slots", "args"] [] ∧ ∀ (s : Shared) (us : List Value), us.length = (["slots", "args"] : List Str).length → BindsTo s fd ⟨us, []⟩ ((["slots", "args"] : List Str).zip us) := fnB (c.d.def_ 74 (d := d_mixing_time)) fun _ _ _ _ _ _ us hl => match us, hl with | [_, _], _ => rfl
theorem fn_walk_new (c : Says K) : ∃ fd, Fun K "walk_new" "walk_new" s_walk_new (He.ga K "walk_new") fd ∧ Binds K fd ["slots", "args"] [] ∧ ∀ (s : Shared) (us : List Value), us.length = (["slots", "args"] : List Str).length → BindsTo s fd ⟨us, []⟩ ((["slots", "args"] : List Str).zip us) := fnB (c.d.def_ 75 (d := d_walk_new)) fun _ _ _ _ _ _ us hl => match us, hl with | [_, _], _ => rfl
theorem fn_value_done (c : Says K) : ∃ fd, Fun K "value_done" "value_done" s_value_done (He.ga K "value_done") fd ∧ Binds K fd ["told"] [] ∧ ∀ (s : Shared) (us : List Value), us.length = (["told"] : List Str).length → BindsTo s fd ⟨us, []⟩ ((["told"] : List Str).zip us) := fnB (c.d.def_ 76 (d := d_value_done)) fun _ _ _ _ _ _ us hl => match us, hl with | [_], _ => rfl
theorem fn_walk_next (c : Says K) : ∃ fd, Fun K "walk_next" "walk_next" s_walk_next (He.ga K "walk_next") fd ∧ Binds K fd ["slots", "args"] [] ∧ ∀ (s : Shared) (us : List Value), us.length = (["slots", "args"] : List Str).length → BindsTo s fd ⟨us, []⟩ ((["slots", "args"] : List Str).zip us) := fnB (c.d.def_ 77 (d := d_walk_next)) fun _ _ _ _ _ _ us hl => match us, hl with | [_, _], _ => rfl
theorem fn_walk_signal (c : Says K) : ∃ fd, Fun K "walk_signal" "walk_signal" s_walk_signal (He.ga K "walk_signal") fd ∧ Binds K fd ["slots", "args"] [] ∧ ∀ (s : Shared) (us : List Value), us.length = (["slots", "args"] : List Str).length → BindsTo s fd ⟨us, []⟩ ((["slots", "args"] : List Str).zip us) := fnB (c.d.def_ 78 (d := d_walk_signal)) fun _ _ _ _ _ _ us hl => match us, hl with | [_, _], _ => rfl
theorem fn_walk_finish (c : Says K) : ∃ fd, Fun K "walk_finish" "walk_finish" s_walk_finish (He.ga K "walk_finish") fd ∧ Binds K fd ["slots", "args"] [] ∧ ∀ (s : Shared) (us : List Value), us.length = (["slots", "args"] : List Str).length → BindsTo s fd ⟨us, []⟩ ((["slots", "args"] : List Str).zip us) := fnB (c.d.def_ 79 (d := d_walk_finish)) fun _ _ _ _ _ _ us hl => match us, hl with | [_, _], _ => rfl
theorem fn_walk_close (c : Says K) : ∃ fd, Fun K "walk_close" "walk_close" s_walk_close (He.ga K "walk_close") fd ∧ Binds K fd ["slots", "args"] [] ∧ ∀ (s : Shared) (us : List Value), us.length = (["slots", "args"] : List Str).length → BindsTo s fd ⟨us, []⟩ ((["slots", "args"] : List Str).zip us) := fnB (c.d.def_ 80 (d := d_walk_close)) fun _ _ _ _ _ _ us hl => match us, hl with | [_, _], _ => rfl
theorem fn_enumeration_new (c : Says K) : ∃ fd, Fun K "enumeration_new" "enumeration_new" s_enumeration_new (He.ga K "enumeration_new") fd ∧ Binds K fd ["slots", "args"] [] ∧ ∀ (s : Shared) (us : List Value), us.length = (["slots", "args"] : List Str).length → BindsTo s fd ⟨us, []⟩ ((["slots", "args"] : List Str).zip us) := fnB (c.d.def_ 81 (d := d_enumeration_new)) fun _ _ _ _ _ _ us hl => match us, hl with | [_, _], _ => rfl
theorem fn_enumeration_next (c : Says K) : ∃ fd, Fun K "enumeration_next" "enumeration_next" s_enumeration_next (He.ga K "enumeration_next") fd ∧ Binds K fd ["slots", "args"] [] ∧ ∀ (s : Shared) (us : List Value), us.length = (["slots", "args"] : List Str).length → BindsTo s fd ⟨us, []⟩ ((["slots", "args"] : List Str).zip us) := fnB (c.d.def_ 82 (d := d_enumeration_next)) fun _ _ _ _ _ _ us hl => match us, hl with | [_, _], _ => rfl
theorem fn_enumeration_signal (c : Says K) : ∃ fd, Fun K "enumeration_signal" "enumeration_signal" s_enumeration_signal (He.ga K "enumeration_signal") fd ∧ Binds K fd ["slots", "args"] [] ∧ ∀ (s : Shared) (us : List Value), us.length = (["slots", "args"] : List Str).length → BindsTo s fd ⟨us, []⟩ ((["slots", "args"] : List Str).zip us) := fnB (c.d.def_ 83 (d := d_enumeration_signal)) fun _ _ _ _ _ _ us hl => match us, hl with | [_, _], _ => rfl
theorem fn_enumeration_finish (c : Says K) : ∃ fd, Fun K "enumeration_finish" "enumeration_finish" s_enumeration_finish (He.ga K "enumeration_finish") fd ∧ Binds K fd ["slots", "args"] [] ∧ ∀ (s : Shared) (us : List Value), us.length = (["slots", "args"] : List Str).length → BindsTo s fd ⟨us, []⟩ ((["slots", "args"] : List Str).zip us) := fnB (c.d.def_ 84 (d := d_enumeration_finish)) fun _ _ _ _ _ _ us hl => match us, hl with | [_, _], _ => rfl
theorem fn_enumeration_collect (c : Says K) : ∃ fd, Fun K "enumeration_collect" "enumeration_collect" s_enumeration_collect (He.ga K "enumeration_collect") fd ∧ Binds K fd ["slots", "args"] [] ∧ ∀ (s : Shared) (us : List Value), us.length = (["slots", "args"] : List Str).length → BindsTo s fd ⟨us, []⟩ ((["slots", "args"] : List Str).zip us) := fnB (c.d.def_ 85 (d := d_enumeration_collect)) fun _ _ _ _ _ _ us hl => match us, hl with | [_, _], _ => rfl
theorem fn_enumeration_together (c : Says K) : ∃ fd, Fun K "enumeration_together" "enumeration_together" s_enumeration_together (He.ga K "enumeration_together") fd ∧ Binds K fd ["slots", "args"] [] ∧ ∀ (s : Shared) (us : List Value), us.length = (["slots", "args"] : List Str).length → BindsTo s fd ⟨us, []⟩ ((["slots", "args"] : List Str).zip us) := fnB (c.d.def_ 86 (d := d_enumeration_together)) fun _ _ _ _ _ _ us hl => match us, hl with | [_, _], _ => rfl
theorem fn_enumeration_close (c : Says K) : ∃ fd, Fun K "enumeration_close" "enumeration_close" s_enumeration_close (He.ga K "enumeration_close") fd ∧ Binds K fd ["slots", "args"] [] ∧ ∀ (s : Shared) (us : List Value), us.length = (["slots", "args"] : List Str).length → BindsTo s fd ⟨us, []⟩ ((["slots", "args"] : List Str).zip us) := fnB (c.d.def_ 87 (d := d_enumeration_close)) fun _ _ _ _ _ _ us hl => match us, hl with | [_, _], _ => rfl
theorem fn_answer_of (c : Says K) : ∃ fd, Fun K "answer_of" "answer_of" s_answer_of (He.ga K "answer_of") fd ∧ Binds K fd ["slots", "octets"] [] ∧ ∀ (s : Shared) (us : List Value), us.length = (["slots", "octets"] : List Str).length → BindsTo s fd ⟨us, []⟩ ((["slots", "octets"] : List Str).zip us) := fnB (c.d.def_ 88 (d := d_answer_of)) fun _ _ _ _ _ _ us hl => match us, hl with | [_, _], _ => rfl
theorem fn_answers (c : Says K) : ∃ fd, Fun K "answers" "answers" s_answers (He.ga K "answers") fd ∧ Binds K fd ["calls"] [] ∧ ∀ (s : Shared) (us : List Value), us.length = (["calls"] : List Str).length → BindsTo s fd ⟨us, []⟩ ((["calls"] : List Str).zip us) := fnB (c.d.def_ 89 (d := d_answers)) fun _ _ _ _ _ _ us hl => match us, hl with | [_], _ => rfl
theorem ok_all (X : K.In h) (G : h.Ns mainGlobals mg) (c : Says K) {fd : FuncData} (F : Fun K "answers" "answers" s_answers (He.ga K "answers") fd) : FnOk P w K mg base CX0 81 (He.ga K "answers") fd ["calls"] (sp_answersK K) := by
  have TF := mkTR X G c
  let T := mkTX X G c
  obtain ⟨fd_is_integer, F_is_integer, b_is_integer, _⟩ := fn_is_integer c
  obtain ⟨fd_is_state_number, F_is_state_number, b_is_state_number, _⟩ := fn_is_state_number c
  obtain ⟨fd_Refused___init__, F_Refused___init__, b_Refused___init__, _⟩ := fn_Refused___init__ c
  obtain ⟨fd_refuse, F_refuse, b_refuse, _⟩ := fn_refuse c
  obtain ⟨fd_chain_in, F_chain_in, b_chain_in, _⟩ := fn_chain_in c
  obtain ⟨fd_divisor, F_divisor, b_divisor, _⟩ := fn_divisor c
  obtain ⟨fd_is_fraction, F_is_fraction, b_is_fraction, _⟩ := fn_is_fraction c
  obtain ⟨fd_Drawn___init__, F_Drawn___init__, b_Drawn___init__, _⟩ := fn_Drawn___init__ c
  obtain ⟨fd_drawn_in, F_drawn_in, b_drawn_in, _⟩ := fn_drawn_in c
  obtain ⟨fd_reached, F_reached, b_reached, _⟩ := fn_reached c
  obtain ⟨fd_recurrent, F_recurrent, b_recurrent, _⟩ := fn_recurrent c
  obtain ⟨fd_has_single_class, F_has_single_class, b_has_single_class, _⟩ := fn_has_single_class c
  obtain ⟨fd_told_fractions, F_told_fractions, b_told_fractions, _⟩ := fn_told_fractions c
  obtain ⟨fd_fraction, F_fraction, b_fraction, _⟩ := fn_fraction c
  obtain ⟨fd_leads_to, F_leads_to, b_leads_to, _⟩ := fn_leads_to c
  obtain ⟨fd_tree_weight, F_tree_weight, b_tree_weight, _⟩ := fn_tree_weight c
  obtain ⟨fd_Drawn_stationary, F_Drawn_stationary, b_Drawn_stationary, _⟩ := fn_Drawn_stationary c
  obtain ⟨fd_check_steps, F_check_steps, b_check_steps, _⟩ := fn_check_steps c
  obtain ⟨fd_started_in, F_started_in, b_started_in, _⟩ := fn_started_in c
  obtain ⟨fd_Drawn_distribution, F_Drawn_distribution, b_Drawn_distribution, _⟩ := fn_Drawn_distribution c
  obtain ⟨fd_can_meet, F_can_meet, b_can_meet, _⟩ := fn_can_meet c
  obtain ⟨fd_is_periodic, F_is_periodic, b_is_periodic, _⟩ := fn_is_periodic c
  obtain ⟨fd_Rule___init__, F_Rule___init__, b_Rule___init__, _⟩ := fn_Rule___init__ c
  obtain ⟨fd_rule_in, F_rule_in, b_rule_in, _⟩ := fn_rule_in c
  obtain ⟨fd_rule_with_steps, F_rule_with_steps, b_rule_with_steps, _⟩ := fn_rule_with_steps c
  obtain ⟨fd_less, F_less, b_less, _⟩ := fn_less c
  obtain ⟨fd_is_below, F_is_below, b_is_below, _⟩ := fn_is_below c
  obtain ⟨fd_over, F_over, b_over, _⟩ := fn_over c
  obtain ⟨fd_Rule_coverage, F_Rule_coverage, b_Rule_coverage, _⟩ := fn_Rule_coverage c
  obtain ⟨fd_Rule_separation, F_Rule_separation, b_Rule_separation, _⟩ := fn_Rule_separation c
  obtain ⟨fd_times, F_times, b_times, _⟩ := fn_times c
  obtain ⟨fd_Rule_unstopped, F_Rule_unstopped, b_Rule_unstopped, _⟩ := fn_Rule_unstopped c
  obtain ⟨fd_Rule_stops, F_Rule_stops, b_Rule_stops, _⟩ := fn_Rule_stops c
  obtain ⟨fd_Nothing___init__, F_Nothing___init__, b_Nothing___init__, _⟩ := fn_Nothing___init__ c
  obtain ⟨fd_Walk___init__, F_Walk___init__, b_Walk___init__, _⟩ := fn_Walk___init__ c
  obtain ⟨fd_octets_of, F_octets_of, b_octets_of, _⟩ := fn_octets_of c
  obtain ⟨fd_Record___init__, F_Record___init__, b_Record___init__, _⟩ := fn_Record___init__ c
  obtain ⟨fd_record, F_record, b_record, _⟩ := fn_record c
  obtain ⟨fd_value_done, F_value_done, b_value_done, _⟩ := fn_value_done c
  obtain ⟨fd_is_text, F_is_text, b_is_text, _⟩ := fn_is_text c
  obtain ⟨fd_letter_in, F_letter_in, b_letter_in, _⟩ := fn_letter_in c
  obtain ⟨fd_Text___init__, F_Text___init__, b_Text___init__, _⟩ := fn_Text___init__ c
  obtain ⟨fd_text_of, F_text_of, b_text_of, _⟩ := fn_text_of c
  obtain ⟨fd_Drawn_probability_of, F_Drawn_probability_of, b_Drawn_probability_of, _⟩ := fn_Drawn_probability_of c
  obtain ⟨fd_Drawn_state_behind, F_Drawn_state_behind, b_Drawn_state_behind, _⟩ := fn_Drawn_state_behind c
  obtain ⟨fd_Rule_stop_at, F_Rule_stop_at, b_Rule_stop_at, _⟩ := fn_Rule_stop_at c
  obtain ⟨fd_Walk_state, F_Walk_state, b_Walk_state, _⟩ := fn_Walk_state c
  obtain ⟨fd_Walk_report, F_Walk_report, b_Walk_report, _⟩ := fn_Walk_report c
  obtain ⟨fd_Walk_go_on, F_Walk_go_on, b_Walk_go_on, _⟩ := fn_Walk_go_on c
  obtain ⟨fd_Walk_is_running, F_Walk_is_running, b_Walk_is_running, _⟩ := fn_Walk_is_running c
  obtain ⟨fd_Walk_signal, F_Walk_signal, b_Walk_signal, _⟩ := fn_Walk_signal c
  obtain ⟨fd_words_to, F_words_to, b_words_to, _⟩ := fn_words_to c
  obtain ⟨fd_Rule_may_continue, F_Rule_may_continue, b_Rule_may_continue, _⟩ := fn_Rule_may_continue c
  obtain ⟨fd_Enumeration___init__, F_Enumeration___init__, b_Enumeration___init__, _⟩ := fn_Enumeration___init__ c
  obtain ⟨fd_Enumeration_advance, F_Enumeration_advance, b_Enumeration_advance, _⟩ := fn_Enumeration_advance c
  obtain ⟨fd_Enumeration_go_on, F_Enumeration_go_on, b_Enumeration_go_on, _⟩ := fn_Enumeration_go_on c
  obtain ⟨fd_Enumeration_signal, F_Enumeration_signal, b_Enumeration_signal, _⟩ := fn_Enumeration_signal c
  obtain ⟨fd_Enumeration_finish, F_Enumeration_finish, b_Enumeration_finish, _⟩ := fn_Enumeration_finish c
  obtain ⟨fd_Enumeration_collect, F_Enumeration_collect, b_Enumeration_collect, _⟩ := fn_Enumeration_collect c
  obtain ⟨fd_number_in, F_number_in, b_number_in, _⟩ := fn_number_in c
  obtain ⟨fd_Row___init__, F_Row___init__, b_Row___init__, _⟩ := fn_Row___init__ c
  obtain ⟨fd_Row_take, F_Row_take, b_Row_take, _⟩ := fn_Row_take c
  obtain ⟨fd_Row_count, F_Row_count, b_Row_count, _⟩ := fn_Row_count c
  obtain ⟨fd_Row_one_value, F_Row_one_value, b_Row_one_value, _⟩ := fn_Row_one_value c
  obtain ⟨fd_read_request, F_read_request, b_read_request, _⟩ := fn_read_request c
  obtain ⟨fd_number_out, F_number_out, b_number_out, _⟩ := fn_number_out c
  obtain ⟨fd_text_out, F_text_out, b_text_out, _⟩ := fn_text_out c
  obtain ⟨fd_value_out, F_value_out, b_value_out, _⟩ := fn_value_out c
  obtain ⟨fd_answer_of, F_answer_of, b_answer_of, _⟩ := fn_answer_of c
  obtain ⟨fd_Slots___init__, F_Slots___init__, b_Slots___init__, _⟩ := fn_Slots___init__ c
  obtain ⟨fd_stationary_distribution, F_stationary_distribution, b_stationary_distribution, _⟩ := fn_stationary_distribution c
  obtain ⟨fd_distribution, F_distribution, b_distribution, _⟩ := fn_distribution c
  obtain ⟨fd_is_ergodic, F_is_ergodic, b_is_ergodic, _⟩ := fn_is_ergodic c
  obtain ⟨fd_separation, F_separation, b_separation, _⟩ := fn_separation c
  obtain ⟨fd_stop_probabilities, F_stop_probabilities, b_stop_probabilities, _⟩ := fn_stop_probabilities c
  obtain ⟨fd_unstopped_probabilities, F_unstopped_probabilities, b_unstopped_probabilities, _⟩ := fn_unstopped_probabilities c
  obtain ⟨fd_mixing_time, F_mixing_time, b_mixing_time, _⟩ := fn_mixing_time c
  obtain ⟨fd_walk_new, F_walk_new, b_walk_new, _⟩ := fn_walk_new c
  obtain ⟨fd_walk_next, F_walk_next, b_walk_next, _⟩ := fn_walk_next c
  obtain ⟨fd_walk_signal, F_walk_signal, b_walk_signal, _⟩ := fn_walk_signal c
  obtain ⟨fd_walk_finish, F_walk_finish, b_walk_finish, _⟩ := fn_walk_finish c
  obtain ⟨fd_walk_close, F_walk_close, b_walk_close, _⟩ := fn_walk_close c
  obtain ⟨fd_enumeration_new, F_enumeration_new, b_enumeration_new, _⟩ := fn_enumeration_new c
  obtain ⟨fd_enumeration_next, F_enumeration_next, b_enumeration_next, _⟩ := fn_enumeration_next c
  obtain ⟨fd_enumeration_signal, F_enumeration_signal, b_enumeration_signal, _⟩ := fn_enumeration_signal c
  obtain ⟨fd_enumeration_finish, F_enumeration_finish, b_enumeration_finish, _⟩ := fn_enumeration_finish c
  obtain ⟨fd_enumeration_collect, F_enumeration_collect, b_enumeration_collect, _⟩ := fn_enumeration_collect c
  obtain ⟨fd_enumeration_together, F_enumeration_together, b_enumeration_together, _⟩ := fn_enumeration_together c
  obtain ⟨fd_enumeration_close, F_enumeration_close, b_enumeration_close, _⟩ := fn_enumeration_close c
  have c_ok_is_integer : SB.Cal P w K mg base 1 "is_integer" (sp_is_integer T) := ⟨_, _, _, up (ok_is_integer T  F_is_integer) (by decide), He.glo_ok X G (c.d.fact 14), F_is_integer.kp, b_is_integer⟩
  have c_ok_is_state_number : SB.Cal P w K mg base 2 "is_state_number" (sp_is_state_number T) := ⟨_, _, _, up (ok_is_state_number T c_ok_is_integer F_is_state_number) (by decide), He.glo_ok X G (c.d.fact 26), F_is_state_number.kp, b_is_state_number⟩
  have x_ok_Refused___init__ : ExcMk P w K mg base 1 T.Refused (sp_Refused___init__ T) := ⟨_, _, _, (ref_init c).1, (ref_init c).2, up (ok_Refused___init__ T TF F_Refused___init__) (by decide), b_Refused___init__⟩
  have c_ok_refuse : SB.CalX P w K mg base 3 "refuse" (sp_refuse T) := ⟨_, _, _, up (ok_refuse T TF x_ok_Refused___init__ F_refuse) (by decide), He.glo_ok X G (c.d.fact 13), F_refuse.kp, b_refuse⟩
  have c_ok_chain_in : SB.CalX P w K mg base 4 "chain_in" (sp_chain_in T) := ⟨_, _, _, up (ok_chain_in T c_ok_is_state_number c_ok_refuse F_chain_in) (by decide), He.glo_ok X G (c.d.fact 27), F_chain_in.kp, b_chain_in⟩
  have c_ok_divisor : SB.Cal P w K mg base 1 "divisor" (sp_divisor T) := ⟨_, _, _, up (ok_divisor T  F_divisor) (by decide), He.glo_ok X G (c.d.fact 0), F_divisor.kp, b_divisor⟩
  have c_ok_is_fraction : SB.Cal P w K mg base 2 "is_fraction" (sp_is_fraction T) := ⟨_, _, _, up (ok_is_fraction T c_ok_divisor c_ok_is_integer F_is_fraction) (by decide), He.glo_ok X G (c.d.fact 28), F_is_fraction.kp, b_is_fraction⟩
  have k_ok_Drawn___init__ : SB.Mak P w K mg base 1 "Drawn" T.Drawn (sp_Drawn___init__ T) := ⟨_, _, _, He.mkr_ok (c.d.fact 98), up (ok_Drawn___init__ T  F_Drawn___init__) (by decide), T.gDrawn, b_Drawn___init__⟩
  have c_ok_drawn_in : SB.CalX P w K mg base 5 "drawn_in" (sp_drawn_in T) := ⟨_, _, _, up (ok_drawn_in T c_ok_chain_in c_ok_is_fraction c_ok_refuse k_ok_Drawn___init__ F_drawn_in) (by decide), He.glo_ok X G (c.d.fact 29), F_drawn_in.kp, b_drawn_in⟩
  have c_ok_reached : SB.Cal P w K mg base 1 "reached" (sp_reached T) := ⟨_, _, _, up (ok_reached T  F_reached) (by decide), He.glo_ok X G (c.d.fact 6), F_reached.kp, b_reached⟩
  have c_ok_recurrent : SB.Cal P w K mg base 2 "recurrent" (sp_recurrent T) := ⟨_, _, _, up (ok_recurrent T c_ok_reached F_recurrent) (by decide), He.glo_ok X G (c.d.fact 7), F_recurrent.kp, b_recurrent⟩
  have c_ok_has_single_class : SB.Cal P w K mg base 3 "has_single_class" (sp_has_single_class T) := ⟨_, _, _, up (ok_has_single_class T c_ok_reached c_ok_recurrent F_has_single_class) (by decide), He.glo_ok X G (c.d.fact 8), F_has_single_class.kp, b_has_single_class⟩
  have c_ok_told_fractions : SB.Cal P w K mg base 1 "told_fractions" (sp_told_fractions T) := ⟨_, _, _, up (ok_told_fractions T  F_told_fractions) (by decide), He.glo_ok X G (c.d.fact 33), F_told_fractions.kp, b_told_fractions⟩
  have c_ok_fraction : SB.Cal P w K mg base 2 "fraction" (sp_fraction T) := ⟨_, _, _, up (ok_fraction T c_ok_divisor F_fraction) (by decide), He.glo_ok X G (c.d.fact 1), F_fraction.kp, b_fraction⟩
  have c_ok_leads_to : SB.Cal P w K mg base 1 "leads_to" (sp_leads_to T) := ⟨_, _, _, up (ok_leads_to T  F_leads_to) (by decide), He.glo_ok X G (c.d.fact 11), F_leads_to.kp, b_leads_to⟩
  have c_ok_tree_weight : SB.Cal P w K mg base 2 "tree_weight" (sp_tree_weight T) := ⟨_, _, _, up (ok_tree_weight T c_ok_leads_to F_tree_weight) (by decide), He.glo_ok X G (c.d.fact 12), F_tree_weight.kp, b_tree_weight⟩
  have m_ok_Drawn_stationary : SB.Met P w K mg base 3 T.Drawn "stationary" (sp_Drawn_stationary T) := ⟨_, _, _, T.clDrawn, He.meth_ok (c.d.fact 139), up (ok_Drawn_stationary T c_ok_fraction c_ok_tree_weight F_Drawn_stationary) (by decide), b_Drawn_stationary⟩
  have c_ok_check_steps : SB.CalX P w K mg base 4 "check_steps" (sp_check_steps T) := ⟨_, _, _, up (ok_check_steps T c_ok_is_integer c_ok_refuse F_check_steps) (by decide), He.glo_ok X G (c.d.fact 32), F_check_steps.kp, b_check_steps⟩
  have c_ok_started_in : SB.CalX P w K mg base 6 "started_in" (sp_started_in T) := ⟨_, _, _, up (ok_started_in T c_ok_drawn_in c_ok_is_state_number c_ok_refuse F_started_in) (by decide), He.glo_ok X G (c.d.fact 30), F_started_in.kp, b_started_in⟩
  have m_ok_Drawn_distribution : SB.Met P w K mg base 3 T.Drawn "distribution" (sp_Drawn_distribution T) := ⟨_, _, _, T.clDrawn, He.meth_ok (c.d.fact 140), up (ok_Drawn_distribution T c_ok_fraction F_Drawn_distribution) (by decide), b_Drawn_distribution⟩
  have c_ok_can_meet : SB.Cal P w K mg base 1 "can_meet" (sp_can_meet T) := ⟨_, _, _, up (ok_can_meet T  F_can_meet) (by decide), He.glo_ok X G (c.d.fact 9), F_can_meet.kp, b_can_meet⟩
  have c_ok_is_periodic : SB.Cal P w K mg base 3 "is_periodic" (sp_is_periodic T) := ⟨_, _, _, up (ok_is_periodic T c_ok_can_meet c_ok_recurrent F_is_periodic) (by decide), He.glo_ok X G (c.d.fact 10), F_is_periodic.kp, b_is_periodic⟩
  have k_ok_Rule___init__ : SB.Mak P w K mg base 4 "Rule" T.Rule (sp_Rule___init__ T) := ⟨_, _, _, He.mkr_ok (c.d.fact 104), up (ok_Rule___init__ T m_ok_Drawn_stationary F_Rule___init__) (by decide), T.gRule, b_Rule___init__⟩
  have c_ok_rule_in : SB.CalX P w K mg base 7 "rule_in" (sp_rule_in T) := ⟨_, _, _, up (ok_rule_in T c_ok_has_single_class c_ok_refuse c_ok_started_in k_ok_Rule___init__ F_rule_in) (by decide), He.glo_ok X G (c.d.fact 31), F_rule_in.kp, b_rule_in⟩
  have c_ok_rule_with_steps : SB.CalX P w K mg base 8 "rule_with_steps" (sp_rule_with_steps T) := ⟨_, _, _, up (ok_rule_with_steps T c_ok_check_steps c_ok_rule_in F_rule_with_steps) (by decide), He.glo_ok X G (c.d.fact 37), F_rule_with_steps.kp, b_rule_with_steps⟩
  have c_ok_less : SB.Cal P w K mg base 3 "less" (sp_less T) := ⟨_, _, _, up (ok_less T c_ok_fraction F_less) (by decide), He.glo_ok X G (c.d.fact 2), F_less.kp, b_less⟩
  have c_ok_is_below : SB.Cal P w K mg base 1 "is_below" (sp_is_below T) := ⟨_, _, _, up (ok_is_below T  F_is_below) (by decide), He.glo_ok X G (c.d.fact 5), F_is_below.kp, b_is_below⟩
  have c_ok_over : SB.Cal P w K mg base 3 "over" (sp_over T) := ⟨_, _, _, up (ok_over T c_ok_fraction F_over) (by decide), He.glo_ok X G (c.d.fact 4), F_over.kp, b_over⟩
  have m_ok_Rule_coverage : SB.Met P w K mg base 4 T.Rule "coverage" (sp_Rule_coverage T) := ⟨_, _, _, T.clRule, He.meth_ok (c.d.fact 143), up (ok_Rule_coverage T c_ok_is_below c_ok_over m_ok_Drawn_distribution F_Rule_coverage) (by decide), b_Rule_coverage⟩
  have m_ok_Rule_separation : SB.Met P w K mg base 5 T.Rule "separation" (sp_Rule_separation T) := ⟨_, _, _, T.clRule, He.meth_ok (c.d.fact 144), up (ok_Rule_separation T c_ok_less m_ok_Rule_coverage F_Rule_separation) (by decide), b_Rule_separation⟩
  have c_ok_times : SB.Cal P w K mg base 3 "times" (sp_times T) := ⟨_, _, _, up (ok_times T c_ok_fraction F_times) (by decide), He.glo_ok X G (c.d.fact 3), F_times.kp, b_times⟩
  have m_ok_Rule_unstopped : SB.Met P w K mg base 5 T.Rule "unstopped" (sp_Rule_unstopped T) := ⟨_, _, _, T.clRule, He.meth_ok (c.d.fact 145), up (ok_Rule_unstopped T c_ok_less c_ok_times m_ok_Drawn_distribution m_ok_Rule_coverage F_Rule_unstopped) (by decide), b_Rule_unstopped⟩
  have m_ok_Rule_stops : SB.Met P w K mg base 6 T.Rule "stops" (sp_Rule_stops T) := ⟨_, _, _, T.clRule, He.meth_ok (c.d.fact 146), up (ok_Rule_stops T c_ok_less c_ok_over c_ok_times m_ok_Rule_coverage m_ok_Rule_unstopped F_Rule_stops) (by decide), b_Rule_stops⟩
  have c_okL_is_below : SB.Cal P w K mg base 1 "is_below" (sp_is_belowL T) := ⟨_, _, _, up (okL_is_below T  F_is_below) (by decide), He.glo_ok X G (c.d.fact 5), F_is_below.kp, b_is_below⟩
  have k_ok_Nothing___init__ : SB.Mak P w K mg base 1 "Nothing" T.Nothing (sp_Nothing___init__ T) := ⟨_, _, _, He.mkr_ok (c.d.fact 107), up (ok_Nothing___init__ T  F_Nothing___init__) (by decide), T.gNothing, b_Nothing___init__⟩
  have k_ok_Walk___init__ : SB.Mak P w K mg base 1 "Walk" T.Walk (sp_Walk___init__ T) := ⟨_, _, _, He.mkr_ok (c.d.fact 123), up (ok_Walk___init__ T  F_Walk___init__) (by decide), T.gWalk, b_Walk___init__⟩
  have c_ok_octets_of : SB.Cal P w K mg base 1 "octets_of" (sp_octets_of T) := ⟨_, _, _, up (ok_octets_of T  F_octets_of) (by decide), He.glo_ok X G (c.d.fact 15), F_octets_of.kp, b_octets_of⟩
  have k_ok_Record___init__ : SB.Mak P w K mg base 1 "Record" T.Record (sp_Record___init__ T) := ⟨_, _, _, He.mkr_ok (c.d.fact 113), up (ok_Record___init__ T  F_Record___init__) (by decide), T.gRecord, b_Record___init__⟩
  have c_ok_record : SB.Cal P w K mg base 3 "record" (sp_record T) := ⟨_, _, _, up (ok_record T c_ok_octets_of k_ok_Record___init__ F_record) (by decide), He.glo_ok X G (c.d.fact 16), F_record.kp, b_record⟩
  have c_ok_value_done : SB.Cal P w K mg base 4 "value_done" (sp_value_done T) := ⟨_, _, _, up (ok_value_done T c_ok_record F_value_done) (by decide), He.glo_ok X G (c.d.fact 43), F_value_done.kp, b_value_done⟩
  have c_ok_is_text : SB.Cal P w K mg base 1 "is_text" (sp_is_text T) := ⟨_, _, _, up (ok_is_text T  F_is_text) (by decide), He.glo_ok X G (c.d.fact 23), F_is_text.kp, b_is_text⟩
  have c_ok_letter_in : SB.Cal P w K mg base 2 "letter_in" (sp_letter_in T) := ⟨_, _, _, up (ok_letter_in T c_ok_is_text F_letter_in) (by decide), He.glo_ok X G (c.d.fact 24), F_letter_in.kp, b_letter_in⟩
  have k_ok_Text___init__ : SB.Mak P w K mg base 1 "Text" T.Text (sp_Text___init__ T) := ⟨_, _, _, He.mkr_ok (c.d.fact 110), up (ok_Text___init__ T  F_Text___init__) (by decide), T.gText, b_Text___init__⟩
  have c_ok_text_of : SB.Cal P w K mg base 3 "text_of" (sp_text_of T) := ⟨_, _, _, up (ok_text_of T k_ok_Text___init__ F_text_of) (by decide), He.glo_ok X G (c.d.fact 22), F_text_of.kp, b_text_of⟩
  have m_ok_Drawn_probability_of : SB.Met P w K mg base 3 T.Drawn "probability_of" (sp_Drawn_probability_of T) := ⟨_, _, _, T.clDrawn, He.meth_ok (c.d.fact 141), up (ok_Drawn_probability_of T c_ok_fraction F_Drawn_probability_of) (by decide), b_Drawn_probability_of⟩
  have m_ok_Drawn_state_behind : SB.Met P w K mg base 1 T.Drawn "state_behind" (sp_Drawn_state_behind T) := ⟨_, _, _, T.clDrawn, He.meth_ok (c.d.fact 142), up (ok_Drawn_state_behind T  F_Drawn_state_behind) (by decide), b_Drawn_state_behind⟩
  have m_ok_Rule_stop_at : SB.Met P w K mg base 7 T.Rule "stop_at" (sp_Rule_stop_at T) := ⟨_, _, _, T.clRule, He.meth_ok (c.d.fact 147), up (ok_Rule_stop_at T m_ok_Drawn_state_behind m_ok_Rule_stops F_Rule_stop_at) (by decide), b_Rule_stop_at⟩
  have m_ok_Walk_state : SB.Met P w K mg base 2 T.Walk "state" (sp_Walk_state T) := ⟨_, _, _, T.clWalk, He.meth_ok (c.d.fact 153), up (ok_Walk_state T m_ok_Drawn_state_behind F_Walk_state) (by decide), b_Walk_state⟩
  have m_ok_Walk_report : SB.Met P w K mg base 8 T.Walk "report" (sp_Walk_report T) := ⟨_, _, _, T.clWalk, He.meth_ok (c.d.fact 154), up (ok_Walk_report T c_ok_record c_ok_text_of m_ok_Drawn_probability_of m_ok_Rule_stop_at m_ok_Walk_state F_Walk_report) (by decide), b_Walk_report⟩
  have m_ok_Walk_go_on : SB.Met P w K mg base 9 T.Walk "go_on" (sp_Walk_go_on T) := ⟨_, _, _, T.clWalk, He.meth_ok (c.d.fact 155), up (ok_Walk_go_on T c_ok_letter_in k_ok_Nothing___init__ m_ok_Walk_report F_Walk_go_on) (by decide), b_Walk_go_on⟩
  have m_ok_Walk_is_running : SB.Met P w K mg base 1 T.Walk "is_running" (sp_Walk_is_running T) := ⟨_, _, _, T.clWalk, He.meth_ok (c.d.fact 152), up (ok_Walk_is_running T  F_Walk_is_running) (by decide), b_Walk_is_running⟩
  have m_ok_Walk_signal : SB.Met P w K mg base 9 T.Walk "signal" (sp_Walk_signal T) := ⟨_, _, _, T.clWalk, He.meth_ok (c.d.fact 156), up (ok_Walk_signal T c_ok_is_text m_ok_Walk_is_running m_ok_Walk_report m_ok_Walk_state F_Walk_signal) (by decide), b_Walk_signal⟩
  have c_ok_words_to : SB.Cal P w K mg base 1 "words_to" (sp_words_to T) := ⟨_, _, _, up (ok_words_to T  F_words_to) (by decide), He.glo_ok X G (c.d.fact 25), F_words_to.kp, b_words_to⟩
  have m_ok_Rule_may_continue : SB.Met P w K mg base 8 T.Rule "may_continue" (sp_Rule_may_continue T) := ⟨_, _, _, T.clRule, He.meth_ok (c.d.fact 148), up (ok_Rule_may_continue T m_ok_Rule_stop_at F_Rule_may_continue) (by decide), b_Rule_may_continue⟩
  have k_ok_Enumeration___init__ : SB.Mak P w K mg base 9 "Enumeration" T.Enumeration (sp_Enumeration___init__ T) := ⟨_, _, _, He.mkr_ok (c.d.fact 130), up (ok_Enumeration___init__ T c_ok_words_to m_ok_Rule_may_continue F_Enumeration___init__) (by decide), T.gEnumeration, b_Enumeration___init__⟩
  have m_ok_Enumeration_advance : SB.Met P w K mg base 4 T.Enumeration "advance" (sp_Enumeration_advance T) := ⟨_, _, _, T.clEnumeration, He.meth_ok (c.d.fact 157), up (ok_Enumeration_advance T c_ok_record c_ok_text_of m_ok_Drawn_probability_of m_ok_Drawn_state_behind F_Enumeration_advance) (by decide), b_Enumeration_advance⟩
  have m_ok_Enumeration_go_on : SB.Met P w K mg base 5 T.Enumeration "go_on" (sp_Enumeration_go_on T) := ⟨_, _, _, T.clEnumeration, He.meth_ok (c.d.fact 158), up (ok_Enumeration_go_on T m_ok_Enumeration_advance k_ok_Nothing___init__ F_Enumeration_go_on) (by decide), b_Enumeration_go_on⟩
  have m_ok_Enumeration_signal : SB.Met P w K mg base 5 T.Enumeration "signal" (sp_Enumeration_signal T) := ⟨_, _, _, T.clEnumeration, He.meth_ok (c.d.fact 159), up (ok_Enumeration_signal T c_ok_is_integer m_ok_Enumeration_advance F_Enumeration_signal) (by decide), b_Enumeration_signal⟩
  have m_ok_Enumeration_finish : SB.Met P w K mg base 1 T.Enumeration "finish" (sp_Enumeration_finish T) := ⟨_, _, _, T.clEnumeration, He.meth_ok (c.d.fact 160), up (ok_Enumeration_finish T  F_Enumeration_finish) (by decide), b_Enumeration_finish⟩
  have m_ok_Enumeration_collect : SB.Met P w K mg base 5 T.Enumeration "collect" (sp_Enumeration_collect T) := ⟨_, _, _, T.clEnumeration, He.meth_ok (c.d.fact 161), up (ok_Enumeration_collect T m_ok_Enumeration_advance F_Enumeration_collect) (by decide), b_Enumeration_collect⟩
  have held : ∀ f sp, DoorS T f sp → SB.HeldD P w K mg base 20 f sp := by
    rintro f sp ⟨d, hd, rfl, rfl⟩
    match d, hd with
    | 0, _ => exact ⟨_, _, _, (by decide : 6 ≤ 20), ok_stationary_distribution T c_ok_drawn_in c_ok_has_single_class c_ok_told_fractions m_ok_Drawn_stationary F_stationary_distribution, F_stationary_distribution.kp, b_stationary_distribution⟩
    | 1, _ => exact ⟨_, _, _, (by decide : 7 ≤ 20), ok_distribution T c_ok_check_steps c_ok_started_in c_ok_told_fractions m_ok_Drawn_distribution F_distribution, F_distribution.kp, b_distribution⟩
    | 2, _ => exact ⟨_, _, _, (by decide : 5 ≤ 20), ok_is_ergodic T c_ok_chain_in c_ok_has_single_class c_ok_is_periodic F_is_ergodic, F_is_ergodic.kp, b_is_ergodic⟩
    | 3, _ => exact ⟨_, _, _, (by decide : 9 ≤ 20), ok_separation T c_ok_rule_with_steps m_ok_Rule_separation F_separation, F_separation.kp, b_separation⟩
    | 4, _ => exact ⟨_, _, _, (by decide : 9 ≤ 20), ok_stop_probabilities T c_ok_rule_with_steps c_ok_told_fractions m_ok_Rule_stops F_stop_probabilities, F_stop_probabilities.kp, b_stop_probabilities⟩
    | 5, _ => exact ⟨_, _, _, (by decide : 9 ≤ 20), ok_unstopped_probabilities T c_ok_rule_with_steps c_ok_told_fractions m_ok_Rule_unstopped F_unstopped_probabilities, F_unstopped_probabilities.kp, b_unstopped_probabilities⟩
    | 6, _ => exact ⟨_, _, _, (by decide : 8 ≤ 20), ok_mixing_time T c_okL_is_below c_ok_is_fraction c_ok_refuse c_ok_rule_in m_ok_Rule_separation F_mixing_time, F_mixing_time.kp, b_mixing_time⟩
    | 7, _ => exact ⟨_, _, _, (by decide : 8 ≤ 20), ok_walk_new T c_ok_rule_in k_ok_Nothing___init__ k_ok_Walk___init__ F_walk_new, F_walk_new.kp, b_walk_new⟩
    | 8, _ => exact ⟨_, _, _, (by decide : 10 ≤ 20), ok_walk_next T c_ok_value_done m_ok_Walk_go_on F_walk_next, F_walk_next.kp, b_walk_next⟩
    | 9, _ => exact ⟨_, _, _, (by decide : 10 ≤ 20), ok_walk_signal T m_ok_Walk_signal F_walk_signal, F_walk_signal.kp, b_walk_signal⟩
    | 10, _ => exact ⟨_, _, _, (by decide : 5 ≤ 20), ok_walk_finish T c_ok_value_done F_walk_finish, F_walk_finish.kp, b_walk_finish⟩
    | 11, _ => exact ⟨_, _, _, (by decide : 3 ≤ 20), ok_walk_close T k_ok_Nothing___init__ F_walk_close, F_walk_close.kp, b_walk_close⟩
    | 12, _ => exact ⟨_, _, _, (by decide : 11 ≤ 20), ok_enumeration_new T c_ok_check_steps c_ok_rule_in k_ok_Enumeration___init__ k_ok_Nothing___init__ F_enumeration_new, F_enumeration_new.kp, b_enumeration_new⟩
    | 13, _ => exact ⟨_, _, _, (by decide : 6 ≤ 20), ok_enumeration_next T c_ok_value_done m_ok_Enumeration_go_on F_enumeration_next, F_enumeration_next.kp, b_enumeration_next⟩
    | 14, _ => exact ⟨_, _, _, (by decide : 6 ≤ 20), ok_enumeration_signal T m_ok_Enumeration_signal F_enumeration_signal, F_enumeration_signal.kp, b_enumeration_signal⟩
    | 15, _ => exact ⟨_, _, _, (by decide : 5 ≤ 20), ok_enumeration_finish T c_ok_value_done m_ok_Enumeration_finish F_enumeration_finish, F_enumeration_finish.kp, b_enumeration_finish⟩
    | 16, _ => exact ⟨_, _, _, (by decide : 6 ≤ 20), ok_enumeration_collect T m_ok_Enumeration_collect F_enumeration_collect, F_enumeration_collect.kp, b_enumeration_collect⟩
    | 17, _ => exact ⟨_, _, _, (by decide : 6 ≤ 20), ok_enumeration_together T m_ok_Enumeration_finish m_ok_Enumeration_go_on m_ok_Enumeration_signal F_enumeration_together, F_enumeration_together.kp, b_enumeration_together⟩
    | 18, _ => exact ⟨_, _, _, (by decide : 3 ≤ 20), ok_enumeration_close T m_ok_Enumeration_finish k_ok_Nothing___init__ F_enumeration_close, F_enumeration_close.kp, b_enumeration_close⟩
    | d + 19, hd => exact absurd hd (by omega)
  have c_ok_number_in : SB.Cal P w K mg base 1 "number_in" (sp_number_in T) := ⟨_, _, _, up (ok_number_in T  F_number_in) (by decide), He.glo_ok X G (c.d.fact 17), F_number_in.kp, b_number_in⟩
  have k_ok_Row___init__ : SB.Mak P w K mg base 1 "Row" T.Row (sp_Row___init__ T) := ⟨_, _, _, He.mkr_ok (c.d.fact 117), up (ok_Row___init__ T  F_Row___init__) (by decide), T.gRow, b_Row___init__⟩
  have m_ok_Row_take : SB.Met P w K mg base 1 T.Row "take" (sp_Row_take T) := ⟨_, _, _, T.clRow, He.meth_ok (c.d.fact 149), up (ok_Row_take T  F_Row_take) (by decide), b_Row_take⟩
  have m_ok_Row_count : SB.Met P w K mg base 2 T.Row "count" (sp_Row_count T) := ⟨_, _, _, T.clRow, He.meth_ok (c.d.fact 150), up (ok_Row_count T c_ok_number_in m_ok_Row_take F_Row_count) (by decide), b_Row_count⟩
  have m_ok_Row_one_value : SB.Met P w K mg base 60 T.Row "one_value" (sp_Row_one_value T) := ⟨_, _, _, T.clRow, He.meth_ok (c.d.fact 151), up (ok_Row_one_value T c_ok_number_in k_ok_Nothing___init__ k_ok_Record___init__ m_ok_Row_count m_ok_Row_take k_ok_Text___init__ F_Row_one_value T.clRow (He.meth_ok (c.d.fact 151)) b_Row_one_value 32) (by decide), b_Row_one_value⟩
  have c_ok_read_request : SB.Cal P w K mg base 61 "read_request" (sp_read_request T) := ⟨_, _, _, up (ok_read_request T c_ok_number_in k_ok_Row___init__ m_ok_Row_one_value m_ok_Row_take F_read_request) (by decide), He.glo_ok X G (c.d.fact 19), F_read_request.kp, b_read_request⟩
  have c_ok_number_out : SB.Cal P w K mg base 1 "number_out" (sp_number_out T) := ⟨_, _, _, up (ok_number_out T  F_number_out) (by decide), He.glo_ok X G (c.d.fact 18), F_number_out.kp, b_number_out⟩
  have c_ok_text_out : SB.Cal P w K mg base 2 "text_out" (sp_text_out T) := ⟨_, _, _, up (ok_text_out T c_ok_number_out F_text_out) (by decide), He.glo_ok X G (c.d.fact 20), F_text_out.kp, b_text_out⟩
  have c_ok_value_out : SB.Cal P w K mg base 60 "value_out" (sp_value_out T) := ⟨_, _, _, up (ok_value_out T c_ok_number_out c_ok_octets_of c_ok_text_out F_value_out (He.glo_ok X G (c.d.fact 21)) F_value_out.kp b_value_out 32) (by decide), He.glo_ok X G (c.d.fact 21), F_value_out.kp, b_value_out⟩
  have h_hk_octets_of : SB.CalH P w K mg base 1 "octets_of" (sp_octets_of T) := ⟨_, _, _, upH (hk_octets_of T  F_octets_of) (by decide), He.glo_ok X G (c.d.fact 15), F_octets_of.kp, b_octets_of⟩
  have h_hk_number_out : SB.CalH P w K mg base 1 "number_out" (sp_number_out T) := ⟨_, _, _, upH (hk_number_out T  F_number_out) (by decide), He.glo_ok X G (c.d.fact 18), F_number_out.kp, b_number_out⟩
  have h_hk_text_out : SB.CalH P w K mg base 2 "text_out" (sp_text_out T) := ⟨_, _, _, upH (hk_text_out T h_hk_number_out F_text_out) (by decide), He.glo_ok X G (c.d.fact 20), F_text_out.kp, b_text_out⟩
  have c_ok_answer_of : SB.Cal P w K mg base 80 "answer_of" (sp_answer_of T) := ⟨_, _, _, up (ok_answer_of T TF c_ok_read_request c_ok_value_out k_ok_Nothing___init__ held h_hk_octets_of h_hk_text_out F_answer_of) (by decide), He.glo_ok X G (c.d.fact 55), F_answer_of.kp, b_answer_of⟩
  have k_ok_Slots___init__ : SB.Mak P w K mg base 1 "Slots" T.Slots (sp_Slots___init__ T) := ⟨_, _, _, He.mkr_ok (c.d.fact 134), up (ok_Slots___init__ T  F_Slots___init__) (by decide), T.gSlots, b_Slots___init__⟩
  refine less (ok_answers T c_ok_answer_of k_ok_Slots___init__ F) fun vs H Q E z => ?_
  obtain ⟨a, ns, e, r⟩ := z
  exact ⟨a, e, a, ns, e, r⟩
end
end SPH

/-! ## F4 -/
set_option maxHeartbeats 0
namespace SPH
open PySem PySem.Spec PyProof.Rows L2
open PySem.W (Codec OpenSpec)
/-- from the promise of the asked def to the statement's walk, the written part found behind the run -/
theorem walk_at {r : OpenSpec} {k : Nat} {q : Program} {loose : List Str} {XP : (Str → Option Value) → Heap → Prop} {YP : World → Heap → Prop} {d : DefRec} {ps : List Str} {sp : PySem.W.Frag → Sp}
    (said : r.wellSaid = true) (plain : d.params.defaults = []) (many : r.args.length = ps.length) (room : Room k callerA)
    (told : ∀ (w : World) (mg : Str → Option Value) (fa : Addr) (h : Heap), YP w h → h.Ns mainGlobals mg → mg d.name = some (.ref fa) → ∃ (K : PySem.W.Frag) (fd : FuncData), K.In h ∧ (∀ (s : Shared) (us : List Value), us.length = ps.length → BindsTo s fd ⟨us, []⟩ (ps.zip us)) ∧
      ∀ base : Heap, K.In base → base.Ns mainGlobals mg → FnOk r.prog w K mg base CX0 k fa fd ps (sp K))
    (asks : ∀ (K : PySem.W.Frag) (H : Hp) (xs : List V) (a : Codec.denoteAll r.args), OnlyF H → Codec.withinAll r.args a = true → Codec.app r.args r.asked a = true → DwAll K H xs (Codec.encAll r.args a) → sp K xs H (fun v H' => Dw K H' v (r.ret.enc (Codec.app r.args r.f a))) fun _ _ _ => False) :
    PySem.W.WalkOS q loose XP YP r d [] (fun f vs => PySem.call f vs) := by
  intro w before s mg mb G Y fa o pm cd doc dV kV ho hd hcd hD named global args vals as pre layable hrd weight hlo
  obtain ⟨a, dec, asked⟩ := PySem.W.os_pre_some pre
  obtain ⟨enc, within⟩ := Codec.encAll_of_decAll r.args args a dec
  subst enc
  obtain ⟨K, fd, inn, binds, ok⟩ := told w mg fa _ Y G.T.g named
  have same : (Codec.encAll r.args a).length = ps.length := by
    rw [encAll_len]
    exact many
  have ends := spec_call (R := []) (cl := classAt before.heap) (d0 := r.ret.enc (Codec.app r.args r.f a)) inn G.T.g G.T.b G.T.builtins G.T.nolimit global weight (pl_encAll _ _) (layable_weight layable) room ok binds same (fun H xs only laid => asks K H xs a only within asked laid) fun _ _ _ z => z
  refine PySem.W.enter_call (codeAny_mono ends fun res s2 fin => ?_)
  obtain ⟨u, as2, rfl, f1, f2, f3, f4⟩ := fin
  refine ⟨.inl ⟨u, _, as2, rfl, fun _ => rfl, f1, (OpenSpec.post_iff said within _ _).mpr rfl, fun z => ?_⟩, f2, f3, f4⟩
  exact Bool.noConfusion (show false = true from z)
theorem found {P : Program} {w : World} {h : Heap} {mg : Str → Option Value} {fa : Addr} (Y : hk.says w h) (G : h.Ns mainGlobals mg) (named : mg ("answers" : Str) = some (.ref fa)) :
    ∃ (K : PySem.W.Frag) (fd : FuncData), K.In h ∧ (∀ (s : Shared) (us : List Value), us.length = (["calls"] : List Str).length → BindsTo s fd ⟨us, []⟩ ((["calls"] : List Str).zip us)) ∧
      ∀ base : Heap, K.In base → base.Ns mainGlobals mg → FnOk P w K mg base CX0 81 fa fd ["calls"] (SP.sp_answersK K) := by
  obtain ⟨K, X, c⟩ := Y
  obtain ⟨fd, F, b, bt⟩ := fn_answers c
  have e := named.symm.trans (He.glo_ok X G (c.d.fact 56 (f := .glo "answers")))
  cases e
  exact ⟨K, fd, X, bt, fun base _ _ => ok_all X G c F⟩
end SPH
open PySem PySem.W PySem.Calls PyProof.Rows
theorem PySem.Challenge.cw_stationstop_s01_answers_holds : PySem.Challenge.rw_stationstop_s01_answers.Holds := by
  w_on
  refine HandSHeadRun.head_spec (r := PySem.Challenge.rw_stationstop_s01_answers) (q := SPH.qv) (H := SPH.hk) (ob := SPH.ob) (M := 20000) (loose := SPH.names) (d := HandSHeadRun.topDef PySem.Challenge.rw_stationstop_s01_answers.prog 82) (kwd := []) SPH.ob_eq
    (by kernel_rfl) (fun s => by kernel_rfl) SPH.run (by kernel_rfl) (by kernel_rfl) (by kernel_rfl) os_shapes (by first | assumption | decide +kernel) (by decide +kernel) ⟨rfl, rfl, rfl, rfl, rfl, by decide +kernel⟩ ?hw ?hc
  case hw => exact ⟨[.list [.int 0, .int 3, .int 2, .int 0, .int 0]], by decide +kernel, by decide +kernel⟩
  case hc =>
    refine SPH.walk_at (k := 81) (ps := ["calls"]) (sp := SP.sp_answersK) (by decide +kernel) (by kernel_rfl) rfl ⟨rfl, by decide, by decide⟩ (fun w mg fa h Y G named => SPH.found Y G ?_) ?asks
    · have e : (HandSHeadRun.topDef PySem.Challenge.rw_stationstop_s01_answers.prog 82).name = ("answers" : PySem.Str) := by kernel_rfl
      rw [← e]
      exact named
    · intro K H xs a only within asked laid
      cases laid with
      | cons h1 h2 =>
        cases h2
        cases h1 with
        | lst hs ha =>
          have e := L2.ints_dw a.1 _ ha
          subst e
          have z : ((Codec.inLen 0 61000 a.1 && a.1.all (Codec.inInt 0 65535)) && true) = true := within
          rw [Bool.and_eq_true, Bool.and_eq_true] at z
          exact ⟨_, a.1, rfl, hs, (Codec.inNat_iff.mp z.1.1).2, asked, fun H2 p hp => .lst (L2.SqL.of hp) (L2.dw_ints _)⟩
