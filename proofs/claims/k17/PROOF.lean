import PyProof.Rows.All
import Wide.All
import OpenK.AllK
import Wide.FinOn
import PyProof.EqAt
import PyProof.EqKinds
import PyProof.TupleCall
import KE.KSortTup
import HandS.ForMost
import HandS.Defaults
import HandS.MakeKw
import HandS.MakeKwOnly
import HandS.Exc
import HandS.ExcOwn
import HandS.WordsExc
import HandS.TryOnly
import HandS.TryMany
import HandS.CallSlots
import HandS.ExcCtx
import HandS.ExcInit
import HandS.ExcField
import HandS.Hot
import HandS.HotCalls
import HandS.ExcInitHot
import HandS.More
import HandS.DictComp
import HandS.DictTup
import HandS.DictEq
import HandS.DeepEq
import HandS.TupAny
import HandS.IsInst
import HandS.Conv
import HandS.Sort
import HandS.SortOrd
import HandS.SortRule
import HandS.SortInts
import HandS.New0
import HandS.Head0
import HandS.Head1
import HandS.Head2
import HandS.HeadEnd
import HandS.HeadHook1
import HandS.HeadHook2
import KE.GoesComp
import KE.KDictWalk
import KE.KPairComp
import KE.KDictDisplayH
import HandS.Keys
import PyProof.NeKinds
import PyProof.AutoIntG7
import PyProof.TupleIter
import HandS.Evl
import HandS.Walk
import HandS.ListEq
import PySem.Challenge.RW_retroact_k17_whole_states_of_a_history
set_option Elab.async false
set_option linter.all false
set_option maxRecDepth 100000
set_option maxHeartbeats 0
/-! The text of the program by places, and what the top has written: every def as a datum, every fact by a name. -/
namespace Rk
open PySem PySem.Spec PyProof.Rows L2
def top (i : Nat) : Stmt := PySem.Challenge.pw_retroact_k17_whole_states_of_a_history.main.body.getD i (.Pass ⟨0, 0, 0, 0⟩)
abbrev sFault_init : Stmt := inClass (top 2) 0
abbrev sImpossibleEvent_init : Stmt := inClass (top 3) 0
abbrev sInvalidMoment_init : Stmt := inClass (top 4) 0
abbrev s_is_value : Stmt := top 8
abbrev s_checked : Stmt := top 9
abbrev s_combined : Stmt := top 10
abbrev s_evaluate : Stmt := top 11
abbrev sOutcome_init : Stmt := inClass (top 15) 0
abbrev s_names_set : Stmt := top 16
abbrev s_locals_of : Stmt := top 17
abbrev sReckoner_reckon : Stmt := inClass (top 18) 0
abbrev sReckoner_is_true : Stmt := inClass (top 18) 1
abbrev sReckoner_whole : Stmt := inClass (top 18) 2
abbrev sReckoner_told : Stmt := inClass (top 18) 3
abbrev sRun_init : Stmt := inClass (top 19) 0
abbrev sRun_reckon : Stmt := inClass (top 19) 1
abbrev sRun_reckon_all : Stmt := inClass (top 19) 2
abbrev sRun_go_through : Stmt := inClass (top 19) 3
abbrev sRun_do : Stmt := inClass (top 19) 4
abbrev sRun_repeat : Stmt := inClass (top 19) 5
abbrev sRun_do_deed : Stmt := inClass (top 19) 6
abbrev s_run_handler : Stmt := top 20
abbrev s_begin_with : Stmt := top 21
abbrev s_run_with : Stmt := top 22
abbrev sBeing_init : Stmt := inClass (top 24) 0
abbrev sState_init : Stmt := inClass (top 25) 0
abbrev s_being_parts : Stmt := top 26
abbrev s_same_state : Stmt := top 27
abbrev s_actor_of : Stmt := top 28
abbrev s_handler_of : Stmt := top 29
abbrev sPlain_run : Stmt := inClass (top 30) 0
abbrev sPlain_begin : Stmt := inClass (top 30) 1
abbrev s_born_with : Stmt := top 31
abbrev s_born : Stmt := top 32
abbrev s_first_state : Stmt := top 33
abbrev s_is_input : Stmt := top 34
abbrev s_is_possible : Stmt := top 35
abbrev s_copied : Stmt := top 36
abbrev s_receiver : Stmt := top 37
abbrev s_carry_out : Stmt := top 38
abbrev s_deliver : Stmt := top 39
abbrev s_apply : Stmt := top 40
abbrev s_apply_with : Stmt := top 41
abbrev sHistory_init : Stmt := inClass (top 43) 0
abbrev sHistory_events : Stmt := inClass (top 43) 1
abbrev sHistory_told : Stmt := inClass (top 43) 2
abbrev sHistory_record : Stmt := inClass (top 43) 3
abbrev sHistory_state_at : Stmt := inClass (top 43) 4
abbrev sHistory_kept : Stmt := inClass (top 43) 5
abbrev sHistory_forget : Stmt := inClass (top 43) 6
abbrev sHistory_cut : Stmt := inClass (top 43) 7
abbrev s_states_of : Stmt := top 44
abbrev sActor_init : Stmt := inClass (top 46) 0
abbrev sProgram_init : Stmt := inClass (top 47) 0
abbrev s_actor_parts : Stmt := top 48
abbrev s_same_program : Stmt := top 49
abbrev s_law_state : Stmt := top 51
abbrev s_law_draw : Stmt := top 52
abbrev s_law_exp : Stmt := top 53
abbrev s_law_number : Stmt := top 54
abbrev s_law_statement : Stmt := top 64
abbrev s_law_body : Stmt := top 65
abbrev s_law_begun : Stmt := top 66
abbrev s_law_box : Stmt := top 67
abbrev s_law_program : Stmt := top 68
abbrev s_law_event : Stmt := top 69
abbrev s_law_recorded : Stmt := top 70
abbrev s_law_is_no_moment : Stmt := top 71
abbrev s_law_is_right : Stmt := top 72
abbrev s_law : Stmt := top 73
def dFault_init : He.DefD := ⟨("Fault", some "__init__"), "__init__", "Fault.__init__", defArgs sFault_init, defBody sFault_init, defScope sFault_init, [], []⟩
def dImpossibleEvent_init : He.DefD := ⟨("ImpossibleEvent", some "__init__"), "__init__", "ImpossibleEvent.__init__", defArgs sImpossibleEvent_init, defBody sImpossibleEvent_init, defScope sImpossibleEvent_init, [], []⟩
def dInvalidMoment_init : He.DefD := ⟨("InvalidMoment", some "__init__"), "__init__", "InvalidMoment.__init__", defArgs sInvalidMoment_init, defBody sInvalidMoment_init, defScope sInvalidMoment_init, [], []⟩
def d_is_value : He.DefD := ⟨("is_value", none), "is_value", "is_value", defArgs s_is_value, defBody s_is_value, defScope s_is_value, [], []⟩
def d_checked : He.DefD := ⟨("_checked", none), "_checked", "_checked", defArgs s_checked, defBody s_checked, defScope s_checked, [], []⟩
def d_combined : He.DefD := ⟨("_combined", none), "_combined", "_combined", defArgs s_combined, defBody s_combined, defScope s_combined, [], []⟩
def d_evaluate : He.DefD := ⟨("evaluate", none), "evaluate", "evaluate", defArgs s_evaluate, defBody s_evaluate, defScope s_evaluate, [], []⟩
def dOutcome_init : He.DefD := ⟨("Outcome", some "__init__"), "__init__", "Outcome.__init__", defArgs sOutcome_init, defBody sOutcome_init, defScope sOutcome_init, [.non], []⟩
def d_names_set : He.DefD := ⟨("_names_set", none), "_names_set", "_names_set", defArgs s_names_set, defBody s_names_set, defScope s_names_set, [], []⟩
def d_locals_of : He.DefD := ⟨("locals_of", none), "locals_of", "locals_of", defArgs s_locals_of, defBody s_locals_of, defScope s_locals_of, [], []⟩
def dReckoner_reckon : He.DefD := ⟨("Reckoner", some "reckon"), "reckon", "Reckoner.reckon", defArgs sReckoner_reckon, defBody sReckoner_reckon, defScope sReckoner_reckon, [], []⟩
def dReckoner_is_true : He.DefD := ⟨("Reckoner", some "is_true"), "is_true", "Reckoner.is_true", defArgs sReckoner_is_true, defBody sReckoner_is_true, defScope sReckoner_is_true, [], []⟩
def dReckoner_whole : He.DefD := ⟨("Reckoner", some "whole"), "whole", "Reckoner.whole", defArgs sReckoner_whole, defBody sReckoner_whole, defScope sReckoner_whole, [], []⟩
def dReckoner_told : He.DefD := ⟨("Reckoner", some "told"), "told", "Reckoner.told", defArgs sReckoner_told, defBody sReckoner_told, defScope sReckoner_told, [], []⟩
def dRun_init : He.DefD := ⟨("Run", some "__init__"), "__init__", "Run.__init__", defArgs sRun_init, defBody sRun_init, defScope sRun_init, [], []⟩
def dRun_reckon : He.DefD := ⟨("Run", some "reckon"), "reckon", "Run.reckon", defArgs sRun_reckon, defBody sRun_reckon, defScope sRun_reckon, [], []⟩
def dRun_reckon_all : He.DefD := ⟨("Run", some "reckon_all"), "reckon_all", "Run.reckon_all", defArgs sRun_reckon_all, defBody sRun_reckon_all, defScope sRun_reckon_all, [], []⟩
def dRun_go_through : He.DefD := ⟨("Run", some "go_through"), "go_through", "Run.go_through", defArgs sRun_go_through, defBody sRun_go_through, defScope sRun_go_through, [], []⟩
def dRun_do : He.DefD := ⟨("Run", some "do"), "do", "Run.do", defArgs sRun_do, defBody sRun_do, defScope sRun_do, [], []⟩
def dRun_repeat : He.DefD := ⟨("Run", some "repeat"), "repeat", "Run.repeat", defArgs sRun_repeat, defBody sRun_repeat, defScope sRun_repeat, [], []⟩
def dRun_do_deed : He.DefD := ⟨("Run", some "do_deed"), "do_deed", "Run.do_deed", defArgs sRun_do_deed, defBody sRun_do_deed, defScope sRun_do_deed, [], []⟩
def d_run_handler : He.DefD := ⟨("run_handler", none), "run_handler", "run_handler", defArgs s_run_handler, defBody s_run_handler, defScope s_run_handler, [], []⟩
def d_begin_with : He.DefD := ⟨("begin_with", none), "begin_with", "begin_with", defArgs s_begin_with, defBody s_begin_with, defScope s_begin_with, [], []⟩
def d_run_with : He.DefD := ⟨("run_with", none), "run_with", "run_with", defArgs s_run_with, defBody s_run_with, defScope s_run_with, [], []⟩
def dBeing_init : He.DefD := ⟨("Being", some "__init__"), "__init__", "Being.__init__", defArgs sBeing_init, defBody sBeing_init, defScope sBeing_init, [], [("spawned", .int 0), ("sent", .int 0), ("called", .int 0), ("mode", .str "on")]⟩
def dState_init : He.DefD := ⟨("State", some "__init__"), "__init__", "State.__init__", defArgs sState_init, defBody sState_init, defScope sState_init, [], []⟩
def d_being_parts : He.DefD := ⟨("being_parts", none), "being_parts", "being_parts", defArgs s_being_parts, defBody s_being_parts, defScope s_being_parts, [], []⟩
def d_same_state : He.DefD := ⟨("same_state", none), "same_state", "same_state", defArgs s_same_state, defBody s_same_state, defScope s_same_state, [], []⟩
def d_actor_of : He.DefD := ⟨("_actor_of", none), "_actor_of", "_actor_of", defArgs s_actor_of, defBody s_actor_of, defScope s_actor_of, [], []⟩
def d_handler_of : He.DefD := ⟨("_handler_of", none), "_handler_of", "_handler_of", defArgs s_handler_of, defBody s_handler_of, defScope s_handler_of, [], []⟩
def dPlain_run : He.DefD := ⟨("Plain", some "run"), "run", "Plain.run", defArgs sPlain_run, defBody sPlain_run, defScope sPlain_run, [], []⟩
def dPlain_begin : He.DefD := ⟨("Plain", some "begin"), "begin", "Plain.begin", defArgs sPlain_begin, defBody sPlain_begin, defScope sPlain_begin, [], []⟩
def d_born_with : He.DefD := ⟨("_born_with", none), "_born_with", "_born_with", defArgs s_born_with, defBody s_born_with, defScope s_born_with, [], []⟩
def d_born : He.DefD := ⟨("born", none), "born", "born", defArgs s_born, defBody s_born, defScope s_born, [], []⟩
def d_first_state : He.DefD := ⟨("first_state", none), "first_state", "first_state", defArgs s_first_state, defBody s_first_state, defScope s_first_state, [], []⟩
def d_is_input : He.DefD := ⟨("_is_input", none), "_is_input", "_is_input", defArgs s_is_input, defBody s_is_input, defScope s_is_input, [], []⟩
def d_is_possible : He.DefD := ⟨("is_possible", none), "is_possible", "is_possible", defArgs s_is_possible, defBody s_is_possible, defScope s_is_possible, [], []⟩
def d_copied : He.DefD := ⟨("_copied", none), "_copied", "_copied", defArgs s_copied, defBody s_copied, defScope s_copied, [], []⟩
def d_receiver : He.DefD := ⟨("_receiver", none), "_receiver", "_receiver", defArgs s_receiver, defBody s_receiver, defScope s_receiver, [], []⟩
def d_carry_out : He.DefD := ⟨("_carry_out", none), "_carry_out", "_carry_out", defArgs s_carry_out, defBody s_carry_out, defScope s_carry_out, [], []⟩
def d_deliver : He.DefD := ⟨("_deliver", none), "_deliver", "_deliver", defArgs s_deliver, defBody s_deliver, defScope s_deliver, [], []⟩
def d_apply : He.DefD := ⟨("apply", none), "apply", "apply", defArgs s_apply, defBody s_apply, defScope s_apply, [], []⟩
def d_apply_with : He.DefD := ⟨("apply_with", none), "apply_with", "apply_with", defArgs s_apply_with, defBody s_apply_with, defScope s_apply_with, [], []⟩
def dHistory_init : He.DefD := ⟨("History", some "__init__"), "__init__", "History.__init__", defArgs sHistory_init, defBody sHistory_init, defScope sHistory_init, [], [("every", .int 8)]⟩
def dHistory_events : He.DefD := ⟨("History", some "events"), "events", "History.events", defArgs sHistory_events, defBody sHistory_events, defScope sHistory_events, [], []⟩
def dHistory_told : He.DefD := ⟨("History", some "told"), "told", "History.told", defArgs sHistory_told, defBody sHistory_told, defScope sHistory_told, [], []⟩
def dHistory_record : He.DefD := ⟨("History", some "record"), "record", "History.record", defArgs sHistory_record, defBody sHistory_record, defScope sHistory_record, [], []⟩
def dHistory_state_at : He.DefD := ⟨("History", some "state_at"), "state_at", "History.state_at", defArgs sHistory_state_at, defBody sHistory_state_at, defScope sHistory_state_at, [], []⟩
def dHistory_kept : He.DefD := ⟨("History", some "kept"), "kept", "History.kept", defArgs sHistory_kept, defBody sHistory_kept, defScope sHistory_kept, [], []⟩
def dHistory_forget : He.DefD := ⟨("History", some "forget"), "forget", "History.forget", defArgs sHistory_forget, defBody sHistory_forget, defScope sHistory_forget, [], []⟩
def dHistory_cut : He.DefD := ⟨("History", some "cut"), "cut", "History.cut", defArgs sHistory_cut, defBody sHistory_cut, defScope sHistory_cut, [], []⟩
def d_states_of : He.DefD := ⟨("states_of", none), "states_of", "states_of", defArgs s_states_of, defBody s_states_of, defScope s_states_of, [], []⟩
def dActor_init : He.DefD := ⟨("Actor", some "__init__"), "__init__", "Actor.__init__", defArgs sActor_init, defBody sActor_init, defScope sActor_init, [], []⟩
def dProgram_init : He.DefD := ⟨("Program", some "__init__"), "__init__", "Program.__init__", defArgs sProgram_init, defBody sProgram_init, defScope sProgram_init, [], []⟩
def d_actor_parts : He.DefD := ⟨("actor_parts", none), "actor_parts", "actor_parts", defArgs s_actor_parts, defBody s_actor_parts, defScope s_actor_parts, [], []⟩
def d_same_program : He.DefD := ⟨("same_program", none), "same_program", "same_program", defArgs s_same_program, defBody s_same_program, defScope s_same_program, [], []⟩
def d_law_state : He.DefD := ⟨("_law_state", none), "_law_state", "_law_state", defArgs s_law_state, defBody s_law_state, defScope s_law_state, [], []⟩
def d_law_draw : He.DefD := ⟨("_law_draw", none), "_law_draw", "_law_draw", defArgs s_law_draw, defBody s_law_draw, defScope s_law_draw, [], []⟩
def d_law_exp : He.DefD := ⟨("_law_exp", none), "_law_exp", "_law_exp", defArgs s_law_exp, defBody s_law_exp, defScope s_law_exp, [], []⟩
def d_law_number : He.DefD := ⟨("_law_number", none), "_law_number", "_law_number", defArgs s_law_number, defBody s_law_number, defScope s_law_number, [], []⟩
def d_law_statement : He.DefD := ⟨("_law_statement", none), "_law_statement", "_law_statement", defArgs s_law_statement, defBody s_law_statement, defScope s_law_statement, [], []⟩
def d_law_body : He.DefD := ⟨("_law_body", none), "_law_body", "_law_body", defArgs s_law_body, defBody s_law_body, defScope s_law_body, [], []⟩
def d_law_begun : He.DefD := ⟨("_law_begun", none), "_law_begun", "_law_begun", defArgs s_law_begun, defBody s_law_begun, defScope s_law_begun, [], []⟩
def d_law_box : He.DefD := ⟨("_law_box", none), "_law_box", "_law_box", defArgs s_law_box, defBody s_law_box, defScope s_law_box, [], []⟩
def d_law_program : He.DefD := ⟨("_law_program", none), "_law_program", "_law_program", defArgs s_law_program, defBody s_law_program, defScope s_law_program, [], []⟩
def d_law_event : He.DefD := ⟨("_law_event", none), "_law_event", "_law_event", defArgs s_law_event, defBody s_law_event, defScope s_law_event, [], []⟩
def d_law_recorded : He.DefD := ⟨("_law_recorded", none), "_law_recorded", "_law_recorded", defArgs s_law_recorded, defBody s_law_recorded, defScope s_law_recorded, [], []⟩
def d_law_is_no_moment : He.DefD := ⟨("_law_is_no_moment", none), "_law_is_no_moment", "_law_is_no_moment", defArgs s_law_is_no_moment, defBody s_law_is_no_moment, defScope s_law_is_no_moment, [], []⟩
def d_law_is_right : He.DefD := ⟨("_law_is_right", none), "_law_is_right", "_law_is_right", defArgs s_law_is_right, defBody s_law_is_right, defScope s_law_is_right, [], []⟩
def d_law : He.DefD := ⟨("law", none), "law", "law", defArgs s_law, defBody s_law, defScope s_law, [], []⟩
def fn : List He.DefD := [dFault_init,
  dImpossibleEvent_init,
  dInvalidMoment_init,
  d_is_value,
  d_checked,
  d_combined,
  d_evaluate,
  dOutcome_init,
  d_names_set,
  d_locals_of,
  dReckoner_reckon,
  dReckoner_is_true,
  dReckoner_whole,
  dReckoner_told,
  dRun_init,
  dRun_reckon,
  dRun_reckon_all,
  dRun_go_through,
  dRun_do,
  dRun_repeat,
  dRun_do_deed,
  d_run_handler,
  d_begin_with,
  d_run_with,
  dBeing_init,
  dState_init,
  d_being_parts,
  d_same_state,
  d_actor_of,
  d_handler_of,
  dPlain_run,
  dPlain_begin,
  d_born_with,
  d_born,
  d_first_state,
  d_is_input,
  d_is_possible,
  d_copied,
  d_receiver,
  d_carry_out,
  d_deliver,
  d_apply,
  d_apply_with,
  dHistory_init,
  dHistory_events,
  dHistory_told,
  dHistory_record,
  dHistory_state_at,
  dHistory_kept,
  dHistory_forget,
  dHistory_cut,
  d_states_of,
  dActor_init,
  dProgram_init,
  d_actor_parts,
  d_same_program,
  d_law_state,
  d_law_draw,
  d_law_exp,
  d_law_number,
  d_law_statement,
  d_law_body,
  d_law_begun,
  d_law_box,
  d_law_program,
  d_law_event,
  d_law_recorded,
  d_law_is_no_moment,
  d_law_is_right,
  d_law]
def fa : List He.Fa := [.glo "RetroactError",
  .glo "Fault",
  .glo "ImpossibleEvent",
  .glo "InvalidMoment",
  .glo "Outcome",
  .glo "Reckoner",
  .glo "Run",
  .glo "Being",
  .glo "State",
  .glo "Plain",
  .glo "History",
  .glo "Actor",
  .glo "Program",
  .glo "is_value",
  .glo "_checked",
  .glo "_combined",
  .glo "evaluate",
  .glo "_names_set",
  .glo "locals_of",
  .glo "run_handler",
  .glo "begin_with",
  .glo "run_with",
  .glo "being_parts",
  .glo "same_state",
  .glo "_actor_of",
  .glo "_handler_of",
  .glo "_born_with",
  .glo "born",
  .glo "first_state",
  .glo "_is_input",
  .glo "is_possible",
  .glo "_copied",
  .glo "_receiver",
  .glo "_carry_out",
  .glo "_deliver",
  .glo "apply",
  .glo "apply_with",
  .glo "states_of",
  .glo "actor_parts",
  .glo "same_program",
  .glo "_law_state",
  .glo "_law_draw",
  .glo "_law_exp",
  .glo "_law_number",
  .glo "_law_statement",
  .glo "_law_body",
  .glo "_law_begun",
  .glo "_law_box",
  .glo "_law_program",
  .glo "_law_event",
  .glo "_law_recorded",
  .glo "_law_is_no_moment",
  .glo "_law_is_right",
  .glo "law",
  .free "isinstance",
  .free "int",
  .free "bool",
  .free "len",
  .free "tuple",
  .free "list",
  .free "range",
  .free "sorted",
  .free "all",
  .free "max",
  .free "enumerate",
  .int "LEAST" (-1000000000),
  .int "GREATEST" (1000000000),
  .int "MOST_TURNS" (20),
  .int "MOST_DEEDS" (60),
  .cls "Outcome",
  .cls "Reckoner",
  .cls "Run",
  .cls "Being",
  .cls "State",
  .cls "Plain",
  .cls "History",
  .cls "Actor",
  .cls "Program",
  .noat "Fault" "reason",
  .noat "ImpossibleEvent" "event",
  .noat "InvalidMoment" "moment",
  .noat "Outcome" "kind",
  .noat "Outcome" "states",
  .noat "Outcome" "deeds",
  .noat "Outcome" "reason",
  .noat "Run" "names",
  .noat "Run" "spawned",
  .noat "Run" "reckoner",
  .noat "Run" "deeds",
  .noat "Being" "kind",
  .noat "Being" "states",
  .noat "Being" "spawned",
  .noat "Being" "sent",
  .noat "Being" "called",
  .noat "Being" "mode",
  .noat "State" "beings",
  .noat "State" "waiting",
  .noat "State" "pending",
  .noat "State" "gone",
  .noat "History" "program",
  .noat "History" "_every",
  .noat "History" "_events",
  .noat "History" "_told",
  .noat "History" "_kept",
  .noat "History" "_last",
  .noat "Actor" "name",
  .noat "Actor" "parameters",
  .noat "Actor" "states",
  .noat "Actor" "handlers",
  .noat "Program" "effects",
  .noat "Program" "actors",
  .mkr "Outcome",
  .meth "Reckoner" "reckon",
  .meth "Reckoner" "is_true",
  .meth "Reckoner" "whole",
  .meth "Reckoner" "told",
  .meth "Run" "reckon",
  .meth "Run" "reckon_all",
  .meth "Run" "go_through",
  .meth "Run" "do",
  .meth "Run" "repeat",
  .meth "Run" "do_deed",
  .mkr "Run",
  .mkr "Being",
  .mkr "State",
  .meth "Plain" "run",
  .meth "Plain" "begin",
  .meth "History" "events",
  .meth "History" "told",
  .meth "History" "record",
  .meth "History" "state_at",
  .meth "History" "kept",
  .meth "History" "forget",
  .meth "History" "cut",
  .mkr "History",
  .mkr "Actor",
  .mkr "Program",
  .keep "RetroactError",
  .keep "Fault",
  .keep "ImpossibleEvent",
  .keep "InvalidMoment",
  .exm "Fault" "Fault" true,
  .exm "ImpossibleEvent" "ImpossibleEvent" true,
  .exm "InvalidMoment" "InvalidMoment" true]
def lo0 : List Str := ["RetroactError", "Fault", "ImpossibleEvent", "InvalidMoment", "Outcome", "Reckoner", "Run", "Being", "State", "Plain", "History", "Actor", "Program", "is_value", "_checked", "_combined", "evaluate", "_names_set", "locals_of", "run_handler", "begin_with", "run_with", "being_parts", "same_state", "_actor_of"]
def lo1 : List Str := ["_handler_of", "_born_with", "born", "first_state", "_is_input", "is_possible", "_copied", "_receiver", "_carry_out", "_deliver", "apply", "apply_with", "states_of", "actor_parts", "same_program", "_law_state", "_law_draw", "_law_exp", "_law_number", "_law_ok", "_law_op", "_law_value", "_law_all", "_law_deed", "_law_through"]
def lo2 : List Str := ["_law_do", "_law_names_set", "_law_outcome", "_law_statement", "_law_body", "_law_begun", "_law_box", "_law_program", "_law_event", "_law_recorded", "_law_is_no_moment", "_law_is_right", "LEAST", "GREATEST", "MOST_TURNS", "MOST_DEEDS"]
def loose : List Str := lo0 ++ lo1 ++ lo2
/-! ### classes of errors, classes without an __init__ -/
def oexK (K : PySem.W.Frag) (C : Addr) : Bool := match K.lookup C with
  | some ⟨.type "type", _, .cls cd, sl⟩ => (match cd.mro, sl.toList with
    | .ref C' :: bm, [_, _, _, _, some (.builtin n), _] => decide (C' = C) && (decide (n = "ValueError.__new__") && (!cd.hasDel && (cd.hasDict && PySem.HandSPX.refsVE bm)))
    | _, _ => false)
  | _ => false
def oexB (K : PySem.W.Frag) (x : Str) : Bool := oexK K (He.ga K x) && (He.eqO (PySem.W.findIn K (.ref (He.ga K x)) "__setattr__") (some (some (.builtin "object.__setattr__"))) &&
  (decide (PySem.W.subIn K (.ref (He.ga K x)) (.type "BaseException") = some true) && (decide (PySem.W.typeIn K (.ref (He.ga K x)) = some (.type "type")) && (PySem.W.keepIn K (.ref (He.ga K x)) && (xfB K (He.ga K x) &&
  (He.eqO (PySem.W.findIn K (.ref (He.ga K x)) "__init__") (some (some (.ref (He.ma K (He.ga K x) "__init__")))) && decide (PySem.W.typeIn K (.ref (He.ma K (He.ga K x) "__init__")) = some (.type "function"))))))))
def mk0B (K : PySem.W.Frag) (x : Str) : Bool := PySem.W.makesIn K (He.ga K x) && (He.eqO (PySem.W.findIn K (.ref (He.ga K x)) "__init__") (some (some (.builtin "object.__init__"))) && (decide (PySem.W.mroIn K (He.ga K x) (.type "object") = some true) && PySem.W.keepIn K (.ref (He.ga K x))))
def exB (K : PySem.W.Frag) : Bool := oexB K "Fault" && (oexB K "ImpossibleEvent" && (oexB K "InvalidMoment" && (mk0B K "Reckoner" && mk0B K "Plain")))
end Rk
/-! The head: the top run once in the kernel, what it leaves told by names over a list of the places that are looked at. -/
namespace Rk
open PySem PySem.Spec PyProof.Rows L2
def as0 : List Addr := [3, 24, 44, 63, 82, 91, 98, 105, 112, 128, 139, 146, 184, 245, 256, 263, 268, 284, 303, 314, 321, 328, 335, 359, 368, 375, 382, 387, 394, 401]
def as1 : List Addr := [408, 415, 422, 429, 436, 501, 512, 529, 550, 561, 566, 573, 580, 587, 594, 662, 667, 674, 681, 688, 693, 700, 707, 714, 719, 23, 43, 62, 81, 90]
def as2 : List Addr := [97, 104, 111, 127, 138, 145, 183, 244, 255, 262, 267, 283, 302, 313, 320, 327, 334, 358, 367, 374, 381, 386, 393, 400, 407, 414, 421, 428, 435, 500]
def as3 : List Addr := [511, 528, 549, 560, 565, 572, 579, 586, 593, 661, 666, 673, 680, 687, 692, 699, 706, 713, 718, 41, 60, 79, 125, 160, 167, 174, 181, 202, 209, 214]
def as4 : List Addr := [221, 228, 235, 242, 281, 300, 349, 356, 451, 458, 465, 472, 477, 484, 491, 498, 526, 547, 40, 59, 78, 124, 120, 159, 166, 173, 180, 201, 208, 213]
def as5 : List Addr := [220, 227, 234, 241, 280, 276, 299, 348, 355, 450, 444, 457, 464, 471, 476, 483, 490, 497, 525, 546]
def asK : List Addr := as0 ++ as1 ++ as2 ++ as3 ++ as4 ++ as5

abbrev RW : PySem.W.OpenRow := PySem.W.OpenLaw.row PySem.Challenge.rw_retroact_k17_whole_states_of_a_history
/-- what the end leans on -/
def SaysR (K : PySem.W.Frag) : Prop := He.SaysD fa fn K ∧ exB K = true
def obR (g : Addr → Option Obj) : He.AlD × Bool := (He.obsD fa fn (He.frG g asK), exB (He.frG g asK))
def hookR : PySem.W.Hook where
  α := He.AlD × Bool
  obs := fun s => obR s.heap.get?
  val := fun _ => (He.valD fn, true)
  says := fun _ h => ∃ K : PySem.W.Frag, K.In h ∧ SaysR K
  of := fun _ _ e => ⟨_, He.frG_in, congrArg (fun z : He.AlD × Bool => z.1) e, congrArg (fun z : He.AlD × Bool => z.2) e⟩
  keeps := fun _ _ _ ⟨K, hK, c⟩ k => ⟨K, PySem.W.Frag.In.keeps hK k, c⟩
def obT (s : PySem.W.SharedT) : He.AlD × Bool := obR (HandSHeadRun.getT s)
theorem obT_eq (s : PySem.W.SharedT) : obT s = hookR.obs s.abs := by
  have e : HandSHeadRun.getT s = s.abs.heap.get? := funext (HandSHeadRun.getT_eq s)
  show obR (HandSHeadRun.getT s) = obR s.abs.heap.get?
  rw [e]
theorem runR (w : World) : HandSHeadRun.RunEq RW (PySem.W.view RW.prog [73]) hookR obT 5300 loose w := by
  intro os
  kernel_rfl
end Rk
/-! Rules that the layer lacks, first part: C() of a class without an __init__; an own error made where nothing is handled; a method called where what is raised is wished for at the slots. -/
namespace Rk
open PySem PySem.Spec PyProof.Rows L2
theorem pass0 {X : Cx} : Passes (L2N.CX X.prog X.w) X E0 := fun _ _ _ _ _ _ _ c => by
  obtain ⟨_, _, _, _, _, _, _, _, _, _, _, _, z⟩ := c
  exact z.elim
theorem passF {X : Cx} : Passes (L2N.CX X.prog X.w) X (fun _ _ _ => False) := fun _ _ _ _ _ _ _ c => by
  obtain ⟨_, _, _, _, _, _, _, _, _, _, _, _, z⟩ := c
  exact z.elim
/-! ### C() without an __init__ -/
structure Mk0 (K : PySem.W.Frag) (C : Addr) : Prop where
  makes : PySem.W.makesIn K C = true
  init : PySem.W.findIn K (.ref C) "__init__" = some (some (.builtin "object.__init__"))
  top : PySem.W.mroIn K C (.type "object") = some true
  kp : PySem.W.keepIn K (.ref C) = true
def tMk0 (C : Addr) : TE := fun _ H Q => ∀ x dx, H x = none → H dx = none → dx ≠ x → Q (.ref x) (upd (upd H dx (.own x)) x (.ins C dx []))
theorem pe_mk0 {X : Cx} {C : Addr} {x : Str} {p pos : Pos} (M : Mk0 X.K C) (hg : Gl X x) (hm : X.mg x = some (.ref C)) (hdb : (x == ("__debug__" : Str)) = false := by decide) :
    PE X (.Call (.Name x p) [] [] pos) (tMk0 C) := by
  refine ⟨fun pins s σ H Q I h => ?_⟩
  refine wpAny_Call_Name_kw (ld_glob I hg hm ?_ hdb)
  refine PySem.W.callWith_K0 I.kIn M.kp ?_
  have q := h (s.heap.objs.size + 1) s.heap.objs.size (I.hok.fresh (Nat.le_succ _)) (I.hok.fresh (Nat.le_refl _)) (Nat.ne_of_lt (Nat.lt_succ_self _))
  have I2 := Inv.made (C := C) I
  refine wpAny_call (make_map0 I.kIn M.makes M.init (fun self => PySem.W.Looks.of_pure (PySem.W.oi_bind self)) ?_)
  have ho : ((s.heap.push PySem.W.emptyDict).push (PySem.W.instObj C s.heap.objs.size)).get? (s.heap.objs.size + 1) = some (PySem.W.instObj C s.heap.objs.size) := by
    have e := Heap.get?_push_size (s.heap.push PySem.W.emptyDict) (o := PySem.W.instObj C s.heap.objs.size) rfl
    rwa [Heap.size_push] at e
  have t2 : PySem.W.Looks (model X.prog X.w) ((s.heap.push PySem.W.emptyDict).push (PySem.W.instObj C s.heap.objs.size)) (isInstance (.ref (s.heap.objs.size + 1)) (.type "object")) true :=
    (NwA.type_at ho rfl).andThen (PySem.W.looks_mroIn I2.kIn M.top)
  refine codeAny_call_builtin PySem.W.oi_plain PySem.W.entry_oi (@PySem.W.check_slot (model X.prog X.w) _ _ _ "object.__init__" "object" "__init__" (.ref (s.heap.objs.size + 1)) [] [] _ PySem.W.oi_kind PySem.W.oi_split t2 (NwA.oi_args_any _ [] []) ?_)
  rw [PySem.W.oi_run]
  exact wpAny_pure ⟨rfl, .ref (s.heap.objs.size + 1), _, I2, rfl, q⟩
end Rk
/-! An own error with an __init__ of its own, made where nothing is handled: its context is None. -/
namespace Rk
open PySem PySem.Spec PyProof.Rows L2
section
variable {X : Cx} {arg : Expr} {more : List Expr} {ta : TA} {p pos : Pos}
/-- C(e, ..): as the layer's rule for own errors, and the object's context is told too -/
theorem pmk_err {W : CXT} {x : Str} {C g : Addr} {lv : Nat} {fd : FuncData} {names : List Str} {pr : Sp} (hC : OexC X.K C) (hI : PySem.W.findIn X.K (.ref C) "__init__" = some (some (.ref g)))
    (hT : PySem.W.typeIn X.K (.ref g) = some (.type "function")) (fn : FnOk X.prog X.w X.K X.mg X.base W lv g fd names pr) (room : Room (lv + 1) X.A) (bd : Binds X.K fd names [])
    (pass : Passes W X (fun _ _ _ => False)) (gl : Gl X x) (at_ : X.mg x = some (.ref C)) (ha : PA X (arg :: more) ta) (dbg : (x == ("__debug__" : Str)) = false := by decide)
    (st : starEach (arg :: more) X.env = (false, eval arg X.env) :: starEach more X.env := by rfl) (pl : (backTo pos (starEach more X.env)).any (·.1) = false := by rfl) :
    L2N.PMk X (.Call (.Name x p) (arg :: more) [] pos) (tMkO C pr [] ta) := by
  intro pins s σ H Q I want
  obtain ⟨_, _, _, _, mr, _, _, _, _, _, _, _, _, _, _, cl, veIn⟩ := id hC.cls
  refine wpAny_Call_Name_kw (ld_glob I gl at_ ?_ dbg)
  refine PySem.W.callWith_K (h₀ := X.base) I.ok.mod.kin hC.kC (thn (ha.run pos pins s σ H _ I want) fun us mid ⟨vs, Ha, Ia, va, few, wa⟩ => ⟨Ia.kIn, ?_⟩) st pl
  show wpAny _ _ (call (.ref C) us) _ _ _
  obtain ⟨hp, gs, dn, tk, os⟩ := mid
  let ad : Addr := hp.objs.size + 1
  let hpA : Heap := (hp.push (PySem.W.kdv_tup us)).push (PySem.HandSPX.excO C hp.objs.size)
  have above : hp.objs.size ≤ ad := Nat.le_succ _
  have free : Ha ad = none := Ia.hok.fresh above
  have wI := wa ad free
  rw [List.append_nil] at wI
  have stay : ∀ b o, hp.get? b = some o → hpA.get? b = some o := fun b o e => Heap.get?_push_of_some _ (Heap.get?_push_of_some _ e)
  have got : hpA.get? ad = some (PySem.HandSPX.excO C hp.objs.size) := by show ((hp.push (PySem.W.kdv_tup us)).push (PySem.HandSPX.excO C hp.objs.size)).get? (hp.objs.size + 1) = _; heap_get
  have Ib : Inv X pins σ (upd Ha ad (exo ad C none)) ⟨hpA, gs, dn, tk, os⟩ := Ia.laid (t' := tk) (a := ad) (o := exo ad C none) (h' := hpA) stay above (exo_ok got)
  have vI : Vals (V.ref ad :: vs) (Value.ref ad :: us) := .cons rfl va
  have count : (Value.ref ad :: us ++ []).length = names.length := by rw [List.append_nil, ← vI.length]; exact fn.len _ _ _ _ wI
  have lenUs : us.length ≤ sizeLine := by rw [← Paired.length va, sizeLine_eq]; omega
  have bI := bd ⟨hpA, gs, dn, tk, os⟩ (Value.ref ad :: us) Ib.kIn count
  rw [List.append_nil] at bI
  refine wpAny_call (PySem.HandSPX.call_own F.excBase_ValueError (fun Y => PySem.HandSPX.refsVE_contains Y mr veIn) (Ia.kIn _ _ cl) (PySem.W.looks_findIn Ia.kIn hI) (fun self => PySem.W.bind_fn Ia.kIn self hT) lenUs
    (codeAny_mono (fn.run _ X.stack _ _ ⟨Value.ref ad :: us, []⟩ _ _ _ (fun _ _ _ => False) (room.make C us []) (Ib.env0.make C us []) bI vI wI) fun r out hr => ?_))
  match r, hr with
  | .error er, hr => exact pass pins σ _ _ er out Ib hr
  | .ok (.ret u), ⟨v, Hz, osz, barez, unz, hokz, rv, ev, dd, fs, atE, atD, newD, wz⟩ =>
    subst ev
    obtain ⟨hz, gz, dz, tz, oz⟩ := out
    obtain ⟨t0, G, J, keepG, goneE, obj, noE⟩ := mk_end0 (d2 := dz) (t2 := tz) Ia above stay unz hokz osz barez atE atD newD
    refine ⟨rv, ad, _, _, ⟨G, gz, dz, tz, oz⟩, _, .ref C, some dd, rfl, J, keepG, goneE, obj, ⟨rfl, rfl, fun ws hw => ?_⟩, rfl, rfl, noE, rfl, barez, raises_own hC.exC hC.tyC, wz⟩
    cases hw
    rfl
end
end Rk
/-! A method called where what it raises is wished for at the caller's slots. -/
namespace Rk
open PySem PySem.Spec PyProof.Rows L2
section
variable {X : Cx} {W : CXT} {lv : Nat} {g C : Addr} {fd : FuncData} {names : List Str} {pr : Sp} {E : L2.St → XK} {m : Str} {recv arg : Expr} {more : List Expr} {tr : TE} {ta : TA} {pa pos : Pos}
/-- the reading: the receiver, then the arguments, then the promise -/
def tMeA (C : Addr) (m : Str) (pr : Sp) (E : L2.St → XK) (tr : TE) (ta : TA) : TE := fun σ H Q =>
  tr σ H fun x Ha => ∃ (ad : Addr) (dx : Addr) (fs : List (Str × V)), x = .ref ad ∧ Ha ad = some (.ins C dx fs) ∧ fs.lookup m = none ∧ ta σ Ha fun vs Hb => pr (x :: vs) Hb Q (E σ)
theorem pe_methAt {pl : Sem Bool} (hr : PE X recv tr) (cl : Cls X.K C) (me : Meth X.K C m g) (fn : FnOk X.prog X.w X.K X.mg X.base W lv g fd names pr) (room : Room lv X.A) (bd : Binds X.K fd names [])
    (pass : ∀ σ, PassesAt W X σ (E σ)) (ha : PA X (arg :: more) ta)
    (st : starEach (arg :: more) X.env = (false, eval arg X.env) :: starEach more X.env := by rfl) (nos : (backTo pos (starEach more X.env)).any (·.1) = false := by rfl)
    (form : eval (.Call (.Attribute recv m pa) (arg :: more) [] pos) X.env = (do
      let rv ← eval recv X.env
      standAt pa.atName
      let (g, fst) ← holding [rv] (getMethod rv m pl)
      callWith pos g fst (backTo pos (starEach (arg :: more) X.env)) (backToKw pos (keywordEach [] X.env))) := by rfl) :
    PE X (.Call (.Attribute recv m pa) (arg :: more) [] pos) (tMeA C m pr E tr ta) := by
  refine ⟨fun pins s σ H Q I want => PySem.W.methodCall_KW (pl := pl) (thn (hr.run pins s σ H _ I want) fun u sa hu => ?_) form⟩
  obtain ⟨x, Ha, Ia, rx, ad, dx, fs, rfl, at_, no, wa⟩ := hu
  obtain rfl : u = Value.ref ad := rx
  refine getmeth_ok Ia at_ cl me no (PySem.W.callWith_K (first := [.ref ad]) (h₀ := X.base) Ia.ok.mod.kin me.kp (thn (ha.run pos pins sa σ Ha _ Ia wa) fun us sb hb => ?_) st nos)
  obtain ⟨vs, Hb, Ib, va, wb⟩ := hb
  refine ⟨Ib.kIn, run_fnSD (us := .ref ad :: us) (vs := .ref ad :: vs) (dvs := []) (ds := []) fn room bd .nil (pass σ) Ib (.cons rfl va) ?_⟩
  rw [List.append_nil]
  exact wb
end
end Rk
/-! A list comprehension whose element may raise (what comes out of a call in it). -/
namespace Rk
open PySem PySem.Spec PyProof.Rows L2
/-- the wish of such a block: an exception has come out of a call made in it -/
def OutOf (Y : Cx) (E : XK) (u : Value) (s' : Shared) : Prop :=
  ∃ (pins : List (Addr × Obj)) (σ : L2.St) (H : Hp) (s : Shared), Inv Y pins σ H s ∧ L2N.CX Y.prog Y.w Y.stack H s E u s'
/-- the block's context with that wish -/
abbrev blkR (X : Cx) (s : Shared) (H : Hp) (sc : Scope) (ce : Env) (fp : List Addr) (E : XK) : Cx := (X.blk s H sc ce fp).wish (OutOf (X.blk s H sc ce fp) E)
theorem blkR_pass {X : Cx} {s : Shared} {H : Hp} {sc : Scope} {ce : Env} {fp : List Addr} {E : XK} : Passes (L2N.CX X.prog X.w) (blkR X s H sc ce fp E) E :=
  fun pins σ H' s' _ _ I c => ⟨pins, σ, H', s', I.unwish, c⟩
theorem note_same {e : Value} {a b : Env} (h : a.frame = b.frame) : noteFrame e a = noteFrame e b := by unfold noteFrame PySem.frameOf; rw [h]
theorem frames_less {h B B' : Heap} (le : ∀ b, B.get? b = none → B'.get? b = none) : ∀ {l : List Env}, h.FunFrames B l → h.FunFrames B' l
  | [], _ => trivial
  | _ :: _, ⟨k, ⟨L, o, f, n, g, nf⟩, r⟩ => ⟨k, ⟨L, o, f, le _ n, g, nf⟩, frames_less le r⟩
theorem hide1_none {B : Heap} {C b : Addr} (n : B.get? b = none) : (PySem.W.hideAll B [C]).get? b = none := by
  cases q : (PySem.W.hideAll B [C]).get? b with
  | none => rfl
  | some o => rw [PySem.W.of_hideAll _ q] at n; cases n
theorem hide1_C {B : Heap} {C : Addr} : (PySem.W.hideAll B [C]).get? C = none := PySem.W.hideAll_none _ List.mem_cons_self
theorem hide1_ne {B : Heap} {C b : Addr} {o : Obj} (e : (PySem.W.hideAll B [C]).get? b = some o) : b ≠ C := fun z => by rw [z, hide1_C] at e; cases e
theorem hide1_get {B : Heap} {C b : Addr} {o : Obj} (h : b ≠ C) (e : B.get? b = some o) : (PySem.W.hideAll B [C]).get? b = some o := PySem.W.hideAll_get _ e fun m => h (List.mem_singleton.mp m)
/-- what came out of a call in the block at C goes on in the def's own frame, behind the block -/
theorem comp_fails {X : Cx} {pins : List (Addr × Obj)} {σ : L2.St} {Hc : Hp} {sc s1 : Shared} {C : Addr} {m : Str → Option Value} {E : XK} {ce : Env} {u : Value} (hs : X.stack = X.env :: X.outer) (hf : X.env.frame = some X.env.locals)
    (I : Inv X pins σ Hc sc) (fpc : FpOk X pins Hc C) (ns : sc.heap.Ns C m) (c : L2N.CX X.prog X.w X.stack Hc sc E u s1) (tk : L2N.Takes X fun cls d _ H => E cls d H) (hC : ce.locals = C) (hcf : ce.frame = X.env.frame) :
    wpAny (model X.prog X.w) X.A (noteFrame u ce) (fun _ s2 => CompFails (model X.prog X.w) X.A X.xe ce u s2) (CompFails (model X.prog X.w) X.A X.xe ce) s1 := by
  obtain ⟨a, B, H', cls, d, rfl, fly, hokB, ub, na, os, ag, wish⟩ := c
  obtain ⟨nC, cL, cF, cNew, cCell, cPin⟩ := fpc
  have cS : C ∉ frs X.stack := fun z => (List.mem_cons.mp (I.stkSub C z)).elim cL cF
  have fr : X.A.frames = some (X.env :: X.outer) := by rw [I.ok.frames, hs]
  obtain ⟨oC, es, ep, getC, dataC, restC⟩ := id ns
  have inB : B.get? C = some oC := ub.keep C oC getC nC cS
  have nC' : H' C = none := ub.free C oC getC nC
  rw [note_same hcf]
  rw [hs] at fly
  refine PXN.looks_onZ (L := X.env.locals) L2N.Zn.steady fr hf fly fun h3 held up3 => ?_
  obtain ⟨st3, noA, ff3, oe, vs, T, oT, ts, getA, zA, dA, tb, noT, neT, getT, dT, fl3⟩ := held
  have aC : a ≠ C := fun z => by rw [z, inB] at noA; cases noA
  have TC : T ≠ C := fun z => by rw [z, inB] at noT; cases noT
  refine ⟨m, ?_, fun h4 m4 _ sb => ?_⟩
  · rw [hC]
    exact ⟨oC, es, ep, st3 C oC inB, dataC, restC⟩
  rw [hC] at sb
  have k4 : ∀ b, b ≠ C → h4.get? b = h3.get? b := sb.2
  have stB : (PySem.W.hideAll B [C]).StaysIn h4 := fun b o e => by rw [k4 b (hide1_ne e)]; exact st3 b o (PySem.W.of_hideAll _ e)
  have ff4 : h4.FunFrames (PySem.W.hideAll B [C]) (X.env :: X.outer) := by
    have all : ∀ l : List Env, (∀ b ∈ frs l, b ≠ C) → h3.FunFrames B l → h4.FunFrames (PySem.W.hideAll B [C]) l := by
      intro l
      induction l with
      | nil => intro _ _; trivial
      | cons e r ih =>
        rintro ne ⟨k, ⟨L, o, f, n, g, nf⟩, t⟩
        have hL : L ≠ C := ne L (by unfold frs; rw [List.filterMap_cons, f]; exact List.mem_cons_self)
        exact ⟨k, ⟨L, o, f, hide1_none n, by rw [k4 L hL]; exact g, nf⟩, ih (fun b hb => ne b (by unfold frs; rw [List.filterMap_cons, f]; exact List.mem_cons_of_mem _ hb)) t⟩
    exact all _ (fun b hb z => cS (by rw [hs, ← z]; exact hb)) ff3
  have tr4 : HandSPX.TracedZ h4 (PySem.W.hideAll B [C]) a (L2N.Zn cls d) (rawInt X.env.locals) := ⟨oe, vs, T, oT, ts, by rw [k4 a aC]; exact getA, zA, dA, tb, hide1_none noT, neT, by rw [k4 T TC]; exact getT, dT, fl3⟩
  unfold PySem.passOn
  refine wpAny_bind (wpAny_field (by rw [k4 a aC]; exact getA) dA tb ?_)
  rw [if_neg (show ¬ ((Value.ref T == Value.none) = true) from by simp)]
  have goal : wpAny (model X.prog X.w) X.A (setFlight (.ref a) ce.frame) (fun _ s5 => wpAny (model X.prog X.w) X.A (throw (.ref a) : Sem Value) (fun _ _ => False) X.xe s5) X.xe { s1 with heap := h4 } := by
    rw [hcf, hf]
    refine HandSPX.setFlight_anyZ stB ff4 tr4 fun h5 st5 ff5 tr5 up5 => wpAny_throw (tk _ _ ?_)
    obtain ⟨G, g1, g2⟩ := restrict s1.heap fun b => ((PySem.W.hideAll B [C]).get? b).isSome || decide (b ∈ frs X.stack)
    have gB : ∀ b o, b ≠ C → B.get? b = some o → G.get? b = some o := fun b o hb e => by
      rw [g1 b (by simp [hide1_get hb e])]
      exact fly.1 b o e
    have gF : ∀ b, b ∈ frs X.stack → G.get? b = s1.heap.get? b := fun b hb => g1 b (by simp [hb])
    have og : ∀ b o, G.get? b = some o → s1.heap.get? b = some o ∧ b ≠ C ∧ ((∃ o', (PySem.W.hideAll B [C]).get? b = some o') ∨ b ∈ frs X.stack) := fun b o e => by
      cases q : (((PySem.W.hideAll B [C]).get? b).isSome || decide (b ∈ frs X.stack)) with
      | false => rw [g2 b q] at e; cases e
      | true =>
        rw [g1 b q] at e
        refine ⟨e, ?_⟩
        rcases Bool.or_eq_true_iff.mp q with q | q
        · obtain ⟨o', q⟩ := Option.isSome_iff_exists.mp q
          exact ⟨hide1_ne q, .inl ⟨o', q⟩⟩
        · have q := of_decide_eq_true q
          exact ⟨fun z => cS (z ▸ q), .inr q⟩
    have tracked : ∀ {b : Addr} {o : HO}, H' b = some o → b ≠ C := fun {b o} e z => by rw [z, nC'] at e; cases e
    have hokG : HOk X.prog X.w H' G := fun b o e => (hokB b o e).stay (fun x v hx g => gB x v (by rcases hx with rfl | hx; exact tracked e; exact tracked hx) g) (fun _ z => z) fun _ _ z => z
    have Ih : Inv X pins σ Hc { sc with heap := PySem.W.hideAll sc.heap [C] } := I.turned (it := C) (t' := sc.toks) (fun b o hb e => hide1_get hb e) nC cL cNew cCell cPin
    have J : Inv X pins σ H' { sc with heap := G, gens := s1.gens, drawn := s1.drawn, toks := s1.toks } := by
      refine Ih.call' (ch := []) rfl ⟨fun b o e n hb _ => gB b o (hide1_ne e) (ub.keep b o (PySem.W.of_hideAll _ e) n hb), fun b o e n hb _ => ?_, fun b o e n _ => ub.free b o (PySem.W.of_hideAll _ e) n, fun b o e _ => ?_, ub.tups, ub.frzs, ub.tbls⟩ hokG ag fun _ z => nomatch z
      · obtain ⟨sl, q⟩ := ub.slot b o (PySem.W.of_hideAll _ e) hb
        exact ⟨sl, (gF b hb).trans q⟩
      · by_cases hb : b ∈ frs X.stack
        · obtain ⟨sl, q⟩ := ub.slot b o (PySem.W.of_hideAll _ e) hb
          exact ⟨_, (gF b hb).trans q⟩
        · obtain ⟨o', q⟩ := ub.there b o (PySem.W.of_hideAll _ e) hb
          exact ⟨o', gB b o' (hide1_ne e) q⟩
    refine ⟨a, PySem.W.hideAll B [C], _, pins, σ, H', cls, d, rfl, J, fun b o e hb => ?_, fun b o e nf => ?_, .inr (.inr (by rw [hs]; exact ⟨st5, hide1_none noA, ff5, tr5⟩)), na, os, ag, wish⟩
    · obtain ⟨e1, _, x | x⟩ := og b o e
      · obtain ⟨o', q⟩ := x
        have z := fly.1 b o' (PySem.W.of_hideAll _ q)
        rw [e1] at z
        cases z
        exact q
      · exact absurd x hb
    · obtain ⟨e1, hb, _⟩ := og b o e
      obtain ⟨sl, q⟩ := up3 b o e1 nf
      have q4 : h4.get? b = some { o with slots := sl } := (k4 b hb).trans q
      obtain ⟨sl5, q5⟩ := up5 b _ q4 nf
      exact ⟨sl5, q5⟩
  first
    | exact wpAny_bind (wpAny_pure (wpAny_bind goal))
    | exact wpAny_bind goal
end Rk
namespace Rk
open PySem PySem.Spec PyProof.Rows L2
/-- [elt for target in iter], elt may raise; the reading as tLc's, without tests -/
def tLcR (wi : TI) (g : TG) (te : TE) (own : List Nat) : TE := fun σ H Q => wi σ H fun J Ha => ∀ D, Ha D = none → ∃ W : Nat → Nat → Hp → Prop, (∃ m, W 0 m (upd Ha D (.lst []))) ∧
  ∀ i m Hb, W i m Hb → (J.stop i Hb ∧ Q (.ref D) Hb) ∨ (J.go i Hb ∧ ∃ Nx : Hp → Prop, (∀ Hz, Nx Hz → ∃ k, k < m ∧ W (i + 1) k Hz) ∧
    ∀ x Hz, J.yld i Hb x Hz → g x (wipe σ own) Hz fun σb Hd => wipe σb own = wipe σ own ∧ te σb Hd fun y He => ∃ acc, He D = some (.lst acc) ∧ acc.length < sizeLine ∧ Nx (upd He D (.lst (acc ++ [y]))))
section
variable {X : Cx}
theorem pe_lcR {elt tg iter : Expr} {scope : Scope} {own : List (Str × Nat)} {pos : Pos} {wi : TI} {g : TG} {te : TE} {E : XK} (calm : X.calm = true) (nd : X.N.Nodup) (st : X.stack = X.env :: X.outer) (fr : X.env.frame = some X.env.locals)
    (tk : L2N.Takes X fun cls d _ H => E cls d H) (pi : PI X tg iter wi) (blk : BlkOk X.N X.env.scope scope own)
    (pg : ∀ (s : Shared) (H : Hp) (C : Addr) (cl : List (Str × Addr)) (fp : List Addr), PG (blkR X s H scope (compEnvC scope cl C X.env) fp E) tg g)
    (pe : ∀ (s : Shared) (H : Hp) (C : Addr) (cl : List (Str × Addr)) (fp : List Addr), PE (blkR X s H scope (compEnvC scope cl C X.env) fp E) elt te)
    (fold : ∀ x, foldedSetIterable iter X.env x = pure x := by intro _; rfl) : PE X (.ListComp elt [⟨tg, iter, [], 0⟩] scope pos) (tLcR wi g te (own.map (·.2))) := by
  refine ⟨fun pins s σ H Q I want => ?_⟩
  rw [eval_ListComp]
  have reach : ∀ y ∈ scope.names, y.2 = .free → ∃ c, X.env.cells.lookup y.1 = some c := fun y hy e => (blk.free y hy e).elim (fun k => I.ok.has _ (.inl k)) (fun k => I.ok.has _ (.inr k))
  refine comprehension_at (use := none) rfl fold (closure_ok reach) blk.kind (fun y hy e => by rw [blk.uniq y hy, e]) (thn (pi.run pins s σ H _ I want) fun xv sa hx => thn hx fun itv sb hb => ?_)
  obtain ⟨it, fp, tn, J, Hb, rfl, Ib, T, tb, fb, q⟩ := hb
  refine wpAny_newObj_type (newEnv_comp ?_) (by show 0 ≤ sizeLine; decide)
  obtain ⟨D, hD⟩ : ∃ D : Addr, sb.heap.objs.size = D := ⟨_, rfl⟩
  rw [hD]
  have freeD : Hb D = none := Ib.hok.fresh (Nat.le_of_eq hD)
  obtain ⟨W, ⟨m0, w0⟩, turn⟩ := q D freeD
  obtain ⟨sc, hsc⟩ : ∃ sc : Shared, ({ sb with heap := sb.heap.push { cls := .type "list", data := .seq ([] : List Value).toArray } } : Shared) = sc := ⟨_, rfl⟩
  have heapc : sc.heap = sb.heap.push { cls := .type "list", data := .seq ([] : List Value).toArray } := by rw [← hsc]
  rw [hsc]
  obtain ⟨Hc, hHc⟩ : ∃ Hc : Hp, upd Hb D (.lst []) = Hc := ⟨_, rfl⟩
  have Ic : Inv X pins σ Hc sc := by
    rw [← hsc, ← hHc]
    refine Ib.laid (t' := sb.toks) (fun b o e => Heap.get?_push_of_some _ e) (Nat.le_of_eq hD) ⟨Nat.zero_le _, [], 0, .nil, ?_⟩
    rw [← hD]
    exact Heap.get?_push_size _ rfl
  have fc : ∀ b ∈ fp, FpOk X pins Hc b ∧ b < sc.heap.objs.size := fun b hb => by
    obtain ⟨o, e, _⟩ := T.obj _ _ tb b hb
    have lt := Heap.lt_size e
    refine ⟨⟨?_, (fb b hb).2⟩, by rw [heapc, Heap.size_push]; exact Nat.lt_succ_of_lt lt⟩
    rw [← hHc, upd_ne (by rw [← hD]; exact Nat.ne_of_lt lt)]
    exact (fb b hb).1
  have tc : tn 0 sc.heap := T.keep _ _ _ tb fun b _ o e => by rw [heapc]; exact Heap.get?_push_of_some _ e
  have Id := block_start Ic blk nd fc
  obtain ⟨ce, hce⟩ : ∃ ce : Env, compEnvC scope (cellsFrom (sc.heap.objs.size + 1) scope.names (cloFrom X.env.cells scope.names [])) sc.heap.objs.size X.env = ce := ⟨_, rfl⟩
  have ceL : ce.locals = sc.heap.objs.size := by rw [← hce]; rfl
  have ceF : ce.frame = X.env.frame := by rw [← hce]; rfl
  have PGb := pg sc Hc sc.heap.objs.size (cellsFrom (sc.heap.objs.size + 1) scope.names (cloFrom X.env.cells scope.names [])) fp
  have PEb := pe sc Hc sc.heap.objs.size (cellsFrom (sc.heap.objs.size + 1) scope.names (cloFrom X.env.cells scope.names [])) fp
  rw [hHc] at w0
  rw [hce] at Id PGb PEb
  obtain ⟨sd, hsd⟩ : ∃ sd : Shared, ({ sc with heap := pushCells (sc.heap.push { cls := .type "dict", data := .dict #[] }) scope.names } : Shared) = sd := ⟨_, rfl⟩
  show codeAny _ _ (.compStart (.ListComp elt [⟨tg, iter, [], 0⟩] scope pos) 0 (.ref it) (.ref D) (compEnvC scope (cellsFrom (sc.heap.objs.size + 1) scope.names (cloFrom X.env.cells scope.names [])) sc.heap.objs.size X.env))
    (compEnds (model X.prog X.w) X.A X.xe none (EP X pins σ Q) (.ref D) (compEnvC scope (cellsFrom (sc.heap.objs.size + 1) scope.names (cloFrom X.env.cells scope.names [])) sc.heap.objs.size X.env)) { sc with heap := pushCells (sc.heap.push { cls := .type "dict", data := .dict #[] }) scope.names }
  rw [hce, hsd]
  rw [hsd] at Id
  have td : tn 0 sd.heap := T.keep _ _ _ tc fun b _ o e => by rw [← hsd]; exact pushCells_keeps _ _ _ _ (Heap.get?_push_of_some _ e)
  let B : Cx := X.blk sc Hc scope ce fp
  have own_fp : ∀ {σ' : L2.St} {H' : Hp} {s' : Shared}, Inv B [] σ' H' s' → (∀ b ∈ fp, H' b = none) → ∀ b ∈ fp, FpOk B [] H' b := fun {σ' H' s'} I' n b hb =>
    ⟨n b hb, (I'.ok.exf b hb).1, I'.ok.exfs b hb, .inl hb, fun x c e => (I'.ok.exf b hb).2 x c e, fun p hp => absurd (show p ∈ ([] : List (Addr × Obj)) ++ [] from hp) (by simp)⟩
  have out : ∀ {σ' : L2.St} {H' : Hp} {s' : Shared} {pn : List (Addr × Obj)}, Inv B pn σ' H' s' → Inv X pins σ H' s' ∧ FpOk X pins H' sc.heap.objs.size ∧ ∃ m, s'.heap.Ns sc.heap.objs.size m := fun {σ' H' s' pn} I' => by
    have none_ : H' ce.locals = none := I'.free
    obtain ⟨m, hn, _⟩ := I'.loc
    have hn : s'.heap.Ns ce.locals m := hn
    rw [ceL] at none_ hn
    refine ⟨Ic.call' (ch := fp) I'.os I'.base I'.hok I'.bare fun b hb => ⟨(fc b hb).1.2.2.2.1, (fc b hb).1.2.1, (fc b hb).1.2.2.2.2.1, (fc b hb).1.2.2.2.2.2⟩, Ic.fpOk (Nat.le_refl _) none_, m, hn⟩
  have fails : ∀ {u : Value} {s' : Shared}, OutOf B E u s' → wpAny (model X.prog X.w) X.A (noteFrame u ce) (fun _ s2 => CompFails (model X.prog X.w) X.A X.xe ce u s2) (CompFails (model X.prog X.w) X.A X.xe ce) s' := fun {u s'} ⟨pn, σ', H', s0, I', c⟩ => by
    obtain ⟨Ix, fx, m, ns⟩ := out I'
    exact comp_fails st fr Ix fx ns c tk ceL ceF
  have loop : codeAny (model X.prog X.w) X.A (.compLoop (.ListComp elt [⟨tg, iter, [], 0⟩] scope pos) 0 (.ref it) (.ref D) ce) (compEnds (model X.prog X.w) X.A X.xe none (EP X pins σ Q) (.ref D) ce) sd := by
    refine compLoop_any (fun n s' => ∃ i H', Inv B [] (wipe σ (own.map (·.2))) H' s' ∧ tn i s'.heap ∧ (∀ b ∈ fp, H' b = none) ∧ W i n H') ?_ m0 ⟨0, Hc, Id, td, fun b hb => (fc b hb).1.1, w0⟩
    rintro n se ⟨i, He, Ie, te', ne, we⟩
    rcases turn i n He we with ⟨stop, done⟩ | ⟨go, Nx, down, step⟩
    · refine thnF (T.done B rfl rfl rfl calm i [] se _ He (fun _ _ => False) Ie (own_fp Ie ne) te' stop) fun r sf ⟨hr, If⟩ => ?_
      subst hr
      obtain ⟨Ix, fx, m, ns⟩ := out If
      obtain ⟨f0, f1, f2, f3, f4, f5⟩ := fx
      refine ⟨m, by rw [ceL]; exact ns, fun h' sb => ?_⟩
      rw [ceL] at sb
      exact ⟨.ref D, He, Ix.turned (t' := sf.toks) (fun b o hb e => (sb.2 b hb).trans e) f0 f1 f3 f4 f5, rfl, done⟩
    · refine thnF (T.item B rfl rfl rfl calm i [] se _ He (fun _ _ => False) Ie (own_fp Ie ne) te' go) fun r sf ⟨u, hr, hu⟩ => ?_
      subst hr
      refine thnF hu fun _ sg ⟨x, Hg, Ig, rx, yx, tg', ng⟩ => ?_
      have Ip := (Ig.pinned (own_fp Ig ng) (T.obj _ _ tg')).wish (OutOf B E)
      have bad : ∀ u' s', OutOf B E u' s' → notedBy (model X.prog X.w) X.A ce (fun e s' => compEnds (model X.prog X.w) X.A X.xe none (EP X pins σ Q) (.ref D) ce (.error e) s') u' s' := fun u' s' z => fails z
      refine wpAny_mono (PGb.run _ sg _ Hg x u _ Ip rx (step x Hg yx)) (fun _ sh hsh => ?_) bad
      obtain ⟨σh, Hh, Ih, wh, qh⟩ := hsh
      refine wpAny_tests_nil ?_
      simp only [if_true]
      refine wpAny_mono (PEb.run _ sh σh Hh _ Ih qh) (fun z si hz => ?_) bad
      obtain ⟨yv, Hi, Ii, ri, acc, atD, few, nx⟩ := hz
      refine app_ok (X := B) Ii.unwish atD few ri fun sj Ij => ?_
      obtain ⟨k, lt, wk⟩ := down _ nx
      have pinned : ∀ b ∈ fp, ∀ o, sg.heap.get? b = some o → sj.heap.get? b = some o ∧ (upd Hi D (.lst (acc ++ [yv]))) b = none := fun b hb o e =>
        let z := Ij.pin (b, o) (List.mem_append_right _ (List.mem_append_right _ (mem_pinsAt hb e)))
        ⟨z.1, z.2.1⟩
      have len : (wipe σ (own.map (·.2))).length = σh.length := by rw [← wh, wipe_length]
      refine ⟨k, lt, i + 1, _, (Ij.unpinned (pins := [])).weak len (fun j v e => ?_), T.keep _ _ _ tg' fun b hb o e => (pinned b hb o e).1, fun b hb => ?_, wk⟩
      · rw [← wh] at e
        exact (wipe_some e).1
      · obtain ⟨o, e, _⟩ := T.obj _ _ tg' b hb
        exact (pinned b hb o e).2
  exact codeAny_compStart_list loop (T.self X.A 0 _ _ _ td loop)
end
end Rk
/-! d.items() whatever the keys are, calm or in an except suite; a dict comprehension over it, there and there. -/
namespace Rk
open PySem PySem.Spec PyProof.Rows L2
section
variable {prog : Program} {w : World} {A : Around} {E : Value → Shared → Prop} {s : Shared}
/-- the end of d.items() while an exception is handled -/
theorem items_end_hot {it d x1 : Addr} {i ep : Nat} {es : Array DictEntry} {ok ov : Value} {Q : Option Value → Shared → Prop} (hot : HotX.HotAt A x1 s.heap) (at_ : IsItemIter s.heap it d i es.size ep ok ov) (raw : s.heap.DictRaw d es ep)
    (past : es.size ≤ i) (q : ∀ h', (∀ b o, b ≠ it → s.heap.get? b = some o → h'.get? b = some o) → Q none { s with heap := h' }) : wpAny (model prog w) A (pyNext (.ref it)) Q E s := by
  obtain ⟨handled, o1, vs1, g1, d1, c1⟩ := hot
  obtain ⟨od, god, exd, dat⟩ := id raw
  have ty : s.TypeIs (.ref it) "dict_itemiterator" := ⟨_, at_, rfl⟩
  have ty1 : it ≠ x1 ∨ it = x1 := Decidable.em _ |>.symm
  unfold pyNext
  refine wpAny_bind (wpAny_attempt (wpAny_callSpecial?_slot (name := Str.ofString "__next__") ty PySem.F.slot_dict_itemiterator_next (wpAny_call_entry PySem.F.slot_dict_itemiterator_next ty PySem.F.entry_dict_itemiterator_next ?_ (PySem.F.args_dict_itemiterator_next_1 _))))
  refine wpAny_bind (wpAny_pure (wpAny_bind (wpAny_bind ?_)))
  first | refine wpAny_bind (wpAny_typeNameOfWhole_itemiter ty (wpAny_pure (wpAny_bind (wpAny_fieldsOf at_ rfl ?_)))) | refine wpAny_bind (wpAny_typeNameOf_itemiter ty (wpAny_pure (wpAny_bind (wpAny_fieldsOf at_ rfl ?_))))
  simp only [show Builtin.Dict_items.ownsTuple "dict_itemiterator" = true by decide, if_true]
  show wpAny _ _ (if (Value.ref d == Value.none) = true then _ else _) _ _ s
  rw [if_neg (by simp)]
  refine wpAny_bind (wpAny_pure (wpAny_bind (wpAny_dictEntries god dat ?_)))
  rw [if_neg (by simp)]
  refine wpAny_bind (wpAny_pure (wpAny_bind (wpAny_dictEpoch god dat ?_)))
  rw [if_neg (by simp)]
  refine wpAny_pure ?_
  simp only [show ¬ ((i : Int) < 0) by omega, if_false, Int.toNat_natCast, Array.getElem?_eq_none past]
  refine wpAny_bind ?_
  first | refine wpAny_bind (wpAny_typeNameOfWhole_itemiter ty (wpAny_pure ?_)) | refine wpAny_bind (wpAny_typeNameOf_itemiter ty (wpAny_pure ?_))
  show wpAny _ _ (setField (.ref it) 2 .none >>= _) _ _ s
  refine wpAny_bind (wpAny_setField at_ rfl (by simp) ?_)
  show wpAny _ _ (newExc (.type "StopIteration") [] >>= _) _ _ _
  simp only [newExc, newTuple]
  refine wpAny_bind (wpAny_bind (wpAny_newObj_type ?_ (by size_fits)))
  refine wpAny_bind (m := firstArgMember _ _) (wpAny_of_eq (a := Value.none) (by first | rfl | (simp only [firstArgMember]; rfl)) (wpAny_newObj_type ?_ (by size_fits)))
  -- the handled exception's record, behind the store into the iterator's record
  obtain ⟨o2, vs2, g2, d2, c2⟩ : ∃ (o2 : Obj) (vs2 : Array Value), (s.heap.update it (Obj.mapFields (·.setIfInBounds 2 Value.none))).get? x1 = some o2 ∧ o2.data = .fields vs2 ∧ vs2[2]? = some .none := by
    by_cases e : it = x1
    · subst e
      refine ⟨_, _, Heap.get?_update_self _ g1 (Obj.isFreed_of_fields (Obj.data_mapFields d1 _)), Obj.data_mapFields d1 _, ?_⟩
      rw [Array.getElem?_setIfInBounds]
      have lt := (Array.getElem?_eq_some_iff.mp c1).1
      simp [lt]
    · exact ⟨o1, vs1, by rw [Heap.get?_update_other _ _ e]; exact g1, d1, c1⟩
  refine HotX.raiseNew_hot ⟨handled, o2, vs2, Heap.get?_push_of_some _ (Heap.get?_push_of_some _ g2), d2, c2⟩ (Nat.ne_of_lt (Heap.lt_size (Heap.get?_push_of_some _ g2))) (Heap.get?_push_size _ rfl) rfl (by first | (simp; done) | (simp; omega) | (simp only [Array.size_append]; simp; omega)) ?_
  refine wpAny_bind (wpAny_isInstance (T := "StopIteration") (b := true) ⟨_, Heap.get?_update_self _ (Heap.get?_push_size _ rfl) rfl, rfl⟩ isSubtype_stop (wpAny_pure (q _ fun b o ne e => ?_)))
  have e2 : (s.heap.update it (Obj.mapFields (·.setIfInBounds 2 Value.none))).get? b = some o := by rw [Heap.get?_update_other _ _ (Ne.symm ne)]; exact e
  have e3 := Heap.get?_push_of_some (h := s.heap.update it (Obj.mapFields (·.setIfInBounds 2 Value.none))) { cls := .type "tuple", data := .seq ([] : List Value).toArray } e2
  rw [Heap.get?_update_other _ _ (Nat.ne_of_gt (Heap.lt_size e3))]
  exact Heap.get?_push_of_some _ e3
end
end Rk
namespace Rk
open PySem PySem.Spec PyProof.Rows L2
/-- nothing is handled, or what is handled is pinned and has no context -/
def Live (X : Cx) : Prop := X.calm = true ∨ L2H.HotC X
/-- an iterator in both -/
structure TurnB (P : Program) (w : World) (K : PySem.W.Frag) (tg : Expr) (J : It) (fp : List Addr) (it : Addr) (tn : Nat → Heap → Prop) : Prop where
  mem : it ∈ fp
  obj : ∀ i h, tn i h → ∀ b ∈ fp, ∃ o, h.get? b = some o ∧ ∀ v, o.data ≠ .cell v
  keep : ∀ i h h', tn i h → (∀ b ∈ fp, ∀ o, h.get? b = some o → h'.get? b = some o) → tn i h'
  item : ∀ (Y : Cx), Y.prog = P → Y.w = w → Y.K = K → Live Y → ∀ (i : Nat) (pins : List (Addr × Obj)) (s : Shared) (σ : L2.St) (H : Hp) (E : Value → Shared → Prop), Inv Y pins σ H s → (∀ b ∈ fp, FpOk Y pins H b) → tn i s.heap → J.go i H →
    wpAny (model P w) Y.A (pyNext (.ref it)) (fun r sa => ∃ u, r = some u ∧ wpAny (model P w) Y.A (letOwnedTupleGo tg (.ref it) u) (fun _ sb => ∃ x Hb, Inv Y pins σ Hb sb ∧ RelV x u ∧ J.yld i H x Hb ∧ tn (i + 1) sb.heap ∧ ∀ b ∈ fp, Hb b = none) E sa) E s
  done : ∀ (Y : Cx), Y.prog = P → Y.w = w → Y.K = K → Live Y → ∀ (i : Nat) (pins : List (Addr × Obj)) (s : Shared) (σ : L2.St) (H : Hp) (E : Value → Shared → Prop), Inv Y pins σ H s → (∀ b ∈ fp, FpOk Y pins H b) → tn i s.heap → J.stop i H →
    wpAny (model P w) Y.A (pyNext (.ref it)) (fun r sa => r = none ∧ Inv Y pins σ H sa) E s
  self : ∀ (A : Around) (i : Nat) (s : Shared) (Q : Value → Shared → Prop) (E : Value → Shared → Prop), tn i s.heap → Q (.ref it) s → wpAny (model P w) A (pyIter (.ref it)) Q E s
theorem TurnB.calm {P : Program} {w : World} {K : PySem.W.Frag} {tg : Expr} {J : It} {fp : List Addr} {it : Addr} {tn : Nat → Heap → Prop} (T : TurnB P w K tg J fp it tn) : Turn P w K tg J fp it tn :=
  ⟨T.mem, T.obj, T.keep, fun Y a b c d => T.item Y a b c (.inl d), fun Y a b c d => T.done Y a b c (.inl d), T.self⟩
def PIEB (X : Cx) (pins : List (Addr × Obj)) (σ : L2.St) (tg : Expr) (R : It → Hp → Prop) (itv : Value) (s : Shared) : Prop :=
  ∃ (it : Addr) (fp : List Addr) (tn : Nat → Heap → Prop) (J : It) (H : Hp), itv = .ref it ∧ Inv X pins σ H s ∧ TurnB X.prog X.w X.K tg J fp it tn ∧ tn 0 s.heap ∧ (∀ b ∈ fp, FpOk X pins H b) ∧ R J H
structure PIB (X : Cx) (tg iter : Expr) (wi : TI) : Prop where
  run : ∀ (pins : List (Addr × Obj)) (s : Shared) (σ : L2.St) (H : Hp) (R : It → Hp → Prop), Inv X pins σ H s → wi σ H R →
    wpAny (model X.prog X.w) X.A (eval iter X.env) (fun v sa => wpAny (model X.prog X.w) X.A (pyIter v) (PIEB X pins σ tg R) X.xe sa) X.xe s
theorem PIB.calm {X : Cx} {tg iter : Expr} {wi : TI} (p : PIB X tg iter wi) : PI X tg iter wi := ⟨fun pins s σ H R I h => thn (p.run pins s σ H R I h) fun _ _ h1 => thn h1 fun _ _ ⟨it, fp, tn, J, H', e, I', T, st, f, r⟩ => ⟨it, fp, tn, J, H', e, I', T.calm, st, f, r⟩⟩
/-- the pairs of what stands at d (f, n of them): pr tells the i-th key and value -/
def ItP (d : Addr) (f : HO) (n : Nat) (pr : Nat → Hp → V → V → Prop) : It :=
  ⟨fun i H => H d = some f ∧ i < n, fun i H x H' => ∃ T kx vx, pr i H kx vx ∧ x = .ref T ∧ H T = none ∧ H' = upd H T (.tup [kx, vx]), fun i H => H d = some f ∧ n ≤ i⟩
theorem turn_pairs {P : Program} {w : World} {K : PySem.W.Frag} {d : Addr} {f : HO} {n ep : Nat} {es : Array DictEntry} {pr : Nat → Hp → V → V → Prop} {elts : List Expr} {kk : Nat} {tp : Pos} (it : Addr)
    (dict : ∀ (X : Cx) (pins : List (Addr × Obj)) (σ : L2.St) (H : Hp) (s : Shared), X.prog = P → X.w = w → Inv X pins σ H s → H d = some f → s.heap.DictRaw d es ep ∧ es.size = n ∧ ∀ i (hi : i < es.size), ∃ kx vx, pr i H kx vx ∧ RelV kx es[i].key ∧ RelV vx es[i].val) :
    TurnB P w K (.Tuple elts kk tp) (ItP d f n pr) [it] it (fun i h => ∃ ok ov, IsItemIter h it d i n ep ok ov) where
  mem := by simp
  obj := fun i h st b hb => by
    rw [List.mem_singleton.mp hb]
    obtain ⟨_, _, e⟩ := st
    exact ⟨_, e, fun v z => nomatch z⟩
  keep := fun i h h' st k => let ⟨ok, ov, e⟩ := st; ⟨ok, ov, k it List.mem_cons_self _ e⟩
  item := by
    intro Y hP hw hK _ i pins s σ H E I hf st ⟨atd, lt⟩
    obtain ⟨raw, rfl, ent⟩ := dict Y pins σ H s hP hw I atd
    subst hP hw hK
    obtain ⟨ok, ov, st⟩ := st
    obtain ⟨kx, vx, hpr, rk, rv⟩ := ent i lt
    have below : it < s.heap.objs.size := Heap.lt_size st
    refine wpAny_pyNext_items_item_raw st raw lt fun ha out pair _ keep => ⟨_, rfl, wpAny_letOwnedTupleGo_items (s := { s with heap := ha }) out fun hb st' same => ?_⟩
    have pairb : hb.get? s.heap.objs.size = some { cls := .type "tuple", data := .seq #[es[i].key, es[i].val] } := (same.2 _ (Nat.ne_of_gt below)).trans pair
    have new : ObjOk Y.prog Y.w (upd H s.heap.objs.size (.tup [kx, vx])) hb s.heap.objs.size (.tup [kx, vx]) := ⟨by show 2 ≤ sizeLine; decide, [es[i].key, es[i].val], .cons rk (.cons rv .nil), ⟨_, pairb, rfl, _, rfl⟩⟩
    have J : Inv Y pins σ (upd H s.heap.objs.size (.tup [kx, vx])) { s with heap := hb } :=
      I.turnedNew (t' := s.toks) (ch := [it]) (fun b ob ne e => (same.2 b (fun z => ne (List.mem_singleton.mpr z))).trans (keep b ob (fun z => ne (List.mem_singleton.mpr z)) e)) hf (Nat.le_refl _) new
    refine ⟨.ref s.heap.objs.size, _, J, rfl, ⟨_, kx, vx, hpr, rfl, I.hok.fresh (Nat.le_refl _), rfl⟩, ⟨_, _, st'⟩, fun b hb => ?_⟩
    rw [List.mem_singleton.mp hb, upd_ne (Nat.ne_of_lt below)]
    exact (hf it List.mem_cons_self).1
  done := by
    intro Y hP hw hK live i pins s σ H E I hf st ⟨atd, past⟩
    obtain ⟨raw, rfl, _⟩ := dict Y pins σ H s hP hw I atd
    subst hP hw hK
    obtain ⟨ok, ov, st⟩ := st
    obtain ⟨f0, f1, f2, f3, f4, f5⟩ := hf it List.mem_cons_self
    have fin : ∀ h', (∀ b o, b ≠ it → s.heap.get? b = some o → h'.get? b = some o) → (none : Option Value) = none ∧ Inv Y pins σ H { s with heap := h' } := fun h' k => ⟨rfl, I.turned (t' := s.toks) k f0 f1 f3 f4 f5⟩
    rcases live with calm | hot
    · exact wpAny_pyNext_items_end_raw (I.ok.hd calm) st raw past fun h' k => fin h' k
    · obtain ⟨x1, at_⟩ := hot.at I
      exact items_end_hot at_ st raw past fin
  self := fun A i s Q E st h => let ⟨_, _, e⟩ := st; PySem.W.kcp_self e h
/-- the i-th pair of a dict with keys of ints and texts; with keys that are tuples -/
def prK (kvs : List (Key × V)) (i : Nat) (_ : Hp) (kx vx : V) : Prop := ∃ k, kvs[i]? = some (k, vx) ∧ kx = kV k
def prT (kvs : List (List Key × V)) (i : Nat) (H : Hp) (kx vx : V) : Prop := ∃ k q, kvs[i]? = some (k, vx) ∧ kx = .ref q ∧ H q = some (.tup (k.map kV))
/-- d.items(), d locked -/
def iPairs (td : TE) : TI := fun σ H R => td σ H fun x Ha => ∃ d o, x = .ref d ∧
  ((∃ kvs, Ha d = some (.frz o (.dK kvs)) ∧ R (ItP d (.frz o (.dK kvs)) kvs.length (prK kvs)) Ha) ∨ ∃ kvs, Ha d = some (.frz o (.dT kvs)) ∧ R (ItP d (.frz o (.dT kvs)) kvs.length (prT kvs)) Ha)
theorem frzK_raw {X : Cx} {pins : List (Addr × Obj)} {σ : L2.St} {H : Hp} {s : Shared} {d : Addr} {o : Obj} {kvs : List (Key × V)} (I : Inv X pins σ H s) (h : H d = some (.frz o (.dK kvs))) :
    (d == sysModules) = false ∧ ∃ es ep, o.data = .dict es ep ∧ s.heap.DictRaw d es ep ∧ es.size = kvs.length ∧ ∀ i (hi : i < es.size), ∃ kx vx, prK kvs i H kx vx ∧ RelV kx es[i].key ∧ RelV vx es[i].val := by
  obtain ⟨sys, god, exd, es, ep, vs, dat, size, kv, at_⟩ := I.frzK h
  obtain ⟨o', es', go', exo, dat', keys, prs, _⟩ := at_
  rw [god] at go'
  cases go'
  rw [dat] at dat'
  cases dat'
  refine ⟨sys, es, ep, dat, ⟨o, god, exd, dat⟩, size, fun i hi => ?_⟩
  obtain ⟨⟨k, v⟩, hkv⟩ : ∃ p, kvs[i]? = some p := ⟨kvs[i]'(by omega), List.getElem?_eq_getElem (by omega)⟩
  obtain ⟨u, hu, ru⟩ := kv_get kv hkv
  obtain ⟨hk, hv⟩ := prs.get? (e := es[i]) (by simp [hi]) hu
  exact ⟨kV k, v, ⟨k, hkv, rfl⟩, relV_key hk, by rw [hv]; exact ru⟩
theorem frzT_raw {X : Cx} {pins : List (Addr × Obj)} {σ : L2.St} {H : Hp} {s : Shared} {d : Addr} {o : Obj} {kvs : List (List Key × V)} (I : Inv X pins σ H s) (h : H d = some (.frz o (.dT kvs))) :
    (d == sysModules) = false ∧ ∃ es ep, o.data = .dict es ep ∧ s.heap.DictRaw d es ep ∧ es.size = kvs.length ∧ ∀ i (hi : i < es.size), ∃ kx vx, prT kvs i H kx vx ∧ RelV kx es[i].key ∧ RelV vx es[i].val := by
  obtain ⟨god, _, sys, xs, prs, o', es, ep, go', exd, dat, keys, _⟩ := I.hok d _ h
  rw [god] at go'
  cases go'
  have s1 : es.size = xs.length := size_of_entries keys
  have s2 : kvs.length = xs.length := Paired.length prs
  refine ⟨sys, es, ep, dat, ⟨o, god, exd, dat⟩, s1.trans s2.symm, fun i hi => ?_⟩
  obtain ⟨⟨k, v⟩, hkv⟩ : ∃ p, kvs[i]? = some p := ⟨kvs[i]'(by omega), List.getElem?_eq_getElem (by omega)⟩
  obtain ⟨b, hb, e1, e2, e3⟩ := paired_get prs hkv
  have q := entry_at keys i
  rw [hb, Array.getElem?_eq_getElem hi] at q
  have q := Option.some.inj q
  exact ⟨.ref b.2.1, v, ⟨k, b.2.1, hkv, rfl, e2⟩, by rw [q]; rfl, by rw [q]; exact e3⟩
section
variable {X : Cx} {e : Expr} {td : TE} {pa pos : Pos}
theorem pi_pairs {elts : List Expr} {kk : Nat} {tp : Pos} (he : PE X e td) (base : attributeBase e "items" X.env (eval e X.env) = eval e X.env := by rfl) (line : (pa.endLine == pos.line) = true := by rfl) :
    PIB X (.Tuple elts kk tp) (.Call (.Attribute e "items" pa) [] [] pos) (iPairs td) := by
  refine ⟨fun pins s σ H R I h => ?_⟩
  refine wpAny_Call_method (T := "dict") (id := "dict.items") base rfl line PySem.F.plainAttrs_dict PySem.F.slot_dict_items PySem.F.type_dict_items (thn (he.run pins s σ H _ I h) fun u sa ⟨x, Ha, Ia, rx, d, o, ex, q⟩ => ?_)
  subst ex
  obtain rfl : u = Value.ref d := rx
  have main : ∀ (f : HO) (n : Nat) (pr : Nat → Hp → V → V → Prop), Ha d = some f → R (ItP d f n pr) Ha → (d == sysModules) = false → (∃ es ep, sa.heap.DictRaw d es ep ∧ es.size = n ∧
      ∀ (Y : Cx) (pn : List (Addr × Obj)) (τ : L2.St) (G : Hp) (t : Shared), Y.prog = X.prog → Y.w = X.w → Inv Y pn τ G t → G d = some f → t.heap.DictRaw d es ep ∧ es.size = n ∧ ∀ i (hi : i < es.size), ∃ kx vx, pr i G kx vx ∧ RelV kx es[i].key ∧ RelV vx es[i].val) →
      sa.TypeIs (.ref d) "dict" ∧ (∀ b, Value.ref d = .ref b → ∃ ob, sa.heap.get? b = some ob ∧ ob.dict = none) ∧ wpAny (model X.prog X.w) X.A (callWith pos (.builtin "dict.items") [.ref d] [] []) (fun v s1 => wpAny (model X.prog X.w) X.A (pyIter v) (PIEB X pins σ (.Tuple elts kk tp) R) X.xe s1) X.xe sa := by
    rintro f n pr atd r sys ⟨es, ep, raw, size, dict⟩
    refine ⟨raw.typeIs, fun b eb => ?_, ?_⟩
    · obtain ⟨od, god, exd, _⟩ := raw
      cases eb
      exact ⟨od, god, exd.2.1⟩
    have I2 : Inv X pins σ Ha { sa with heap := sa.heap.push { cls := .type "dict_items", data := .fields #[.ref d] } } := Ia.kept (t' := sa.toks) fun b ob q => Heap.get?_push_of_some _ q
    have fin : wpAny (model X.prog X.w) X.A (pyIter (.ref sa.heap.objs.size)) (PIEB X pins σ (.Tuple elts kk tp) R) X.xe { sa with heap := sa.heap.push { cls := .type "dict_items", data := .fields #[.ref d] } } := by
      refine wpAny_pyIter_items_raw (d := d) (es := es) (ep := ep) ⟨_, Heap.get?_push_size _ rfl, rfl, rfl⟩ (raw.at fun o e => Heap.get?_push_of_some _ e) ?_
      refine ⟨_, [_], _, _, Ha, rfl, I2.kept (t' := sa.toks) fun b ob e => Heap.get?_push_of_some _ e, turn_pairs _ dict, ⟨.none, .none, ?_⟩, fun b hb => ?_, r⟩
      · rw [← size]
        exact Heap.get?_push_size _ rfl
      · rw [List.mem_singleton.mp hb]
        exact I2.fpOk (Nat.le_refl _) (I2.hok.fresh (Nat.le_refl _))
    exact method_meetsIn PySem.F.slot_dict_items PySem.F.entry_dict_items rfl (PySem.evalArgs_none ⟨rfl, raw.typeIs, PySem.F.args_dict_items_1 _, _, meets_dict_items_raw d sys, ⟨es, ep, raw⟩, fin⟩)
  rcases q with ⟨kvs, atd, r⟩ | ⟨kvs, atd, r⟩
  · obtain ⟨sys, es, ep, dat, raw, size, _⟩ := frzK_raw Ia atd
    refine main _ _ _ atd r sys ⟨es, ep, raw, size, fun Y pn τ G t hp hw J hG => ?_⟩
    obtain ⟨_, es', ep', dat', raw', size', ent'⟩ := frzK_raw J hG
    rw [dat] at dat'
    cases dat'
    exact ⟨raw', size', ent'⟩
  · obtain ⟨sys, es, ep, dat, raw, size, _⟩ := frzT_raw Ia atd
    refine main _ _ _ atd r sys ⟨es, ep, raw, size, fun Y pn τ G t hp hw J hG => ?_⟩
    obtain ⟨_, es', ep', dat', raw', size', ent'⟩ := frzT_raw J hG
    rw [dat] at dat'
    cases dat'
    exact ⟨raw', size', ent'⟩
end
end Rk
/-! {k: v for .. in ..} where nothing is handled or in an except suite, keys of either kind. -/
namespace Rk
open PySem PySem.Spec PyProof.Rows L2
theorem put_comp {X : Cx} {pins : List (Addr × Obj)} {σ : L2.St} {H H' : Hp} {s : Shared} {D : Addr} {y v : V} {u r : Value} {E : Value → Shared → Prop} {Q : Unit → Shared → Prop} (room : X.A.units + 1 < cLine) (I : Inv X pins σ H s) (g : DPut H D y v H') (ry : RelV y u) (rv : RelV v r)
    (q : ∀ t, Inv X pins σ H' t → Q () t) : wpAny (model X.prog X.w) X.A (dictSet D u r) Q E s := by
  rcases g with ⟨kvs, k, at_, rfl, lt, rfl⟩ | ⟨kvs, k, b, at_, rfl, eb, lt, rfl⟩
  · exact d_dictSet I at_ lt ry rv q
  · obtain rfl : u = Value.ref b := ry
    obtain ⟨z, sys, xs, rel, dd⟩ := dt_of I.hok at_
    have few : xs.length ≤ sizeLine := by rw [← Paired.length rel]; exact z
    have few' : (putK kvs k v).length ≤ sizeLine := by have := length_putK kvs k v; omega
    refine wpAny_dictSet_heap (hsz := few) (show X.A.units < cLine by omega) (key_of I.hok eb) dd fun h' dd' same => q _ ?_
    obtain ⟨o, es, ep, go, f2, f3, f4, _, f5⟩ := dd'
    refine d_write I (by rw [at_]; trivial) same ⟨o, go⟩ ⟨few', sys, _, (rel.put k eb rv).keeps fun c ys ec => ?_, o, es, ep, go, f2, f3, f4, f5⟩
    rw [upd_ne (ne_of ec at_ fun z => nomatch z)]
    exact ec
/-- the block's context, the pins of the def's kept -/
abbrev blkP (X : Cx) (s : Shared) (H : Hp) (sc : Scope) (ce : Env) (fp : List Addr) : Cx := { X.blk s H sc ce fp with pn := X.pn }
/-- the reading of {k: v for target in iter}: D the new dict, of the kind that is wanted -/
def tDcB (wi : TI) (g : TG) (tk tv : TE) (own : List Nat) : TE := fun σ H Q => wi σ H fun J Ha => ∀ D, Ha D = none → ∃ o0, (o0 = HO.dK [] ∨ o0 = HO.dT []) ∧ ∃ W : Nat → Nat → Hp → Prop, (∃ m, W 0 m (upd Ha D o0)) ∧
  ∀ i m Hb, W i m Hb → (J.stop i Hb ∧ Q (.ref D) Hb) ∨ (J.go i Hb ∧ ∃ Nx : Hp → Prop, (∀ Hz, Nx Hz → ∃ k, k < m ∧ W (i + 1) k Hz) ∧
    ∀ x Hz, J.yld i Hb x Hz → g x (wipe σ own) Hz fun σb Hd => wipe σb own = wipe σ own ∧ tk σb Hd fun y He => tv σb He fun z Hf => ∃ Hg, DPut Hf D y z Hg ∧ Nx Hg)
section
variable {X : Cx}
theorem dcB_core {pins : List (Addr × Obj)} {s : Shared} {σ : L2.St} {H : Hp} {Q : VK} {kx vx tg iter : Expr} {scope : Scope} {own : List (Str × Nat)} {pos pos' : Pos} {wi : TI} {g : TG} {tk tv : TE} {use : Option (Value → Sem Unit)} {Qf : Value → Shared → Prop} (live : Live X) (room : X.A.units + 1 < cLine) (nd : X.N.Nodup) (I : Inv X pins σ H s) (pi : PIB X tg iter wi) (blk : BlkOk X.N X.env.scope scope own)
    (pg : ∀ (s : Shared) (H : Hp) (C : Addr) (cl : List (Str × Addr)) (fp : List Addr), PG (blkP X s H scope (compEnvC scope cl C X.env) fp) tg g)
    (pk : ∀ (s : Shared) (H : Hp) (C : Addr) (cl : List (Str × Addr)) (fp : List Addr), PE (blkP X s H scope (compEnvC scope cl C X.env) fp) kx tk)
    (pv : ∀ (s : Shared) (H : Hp) (C : Addr) (cl : List (Str × Addr)) (fp : List Addr), PE (blkP X s H scope (compEnvC scope cl C X.env) fp) vx tv)
    (fold : ∀ x, foldedSetIterable iter X.env x = pure x) (want : tDcB wi g tk tv (own.map (·.2)) σ H Q)
    (hRR : ∀ D ce s' m H', Inv X pins σ H' s' → Q (.ref D) H' → s'.heap.Ns ce.locals m → FpOk X pins H' ce.locals → compEnds (model X.prog X.w) X.A X.xe use Qf (.ref D) ce (.ok .next) s') :
    wpAny (model X.prog X.w) X.A (comprehension (.DictComp kx vx [⟨tg, iter, [], 0⟩] scope pos) scope X.env pos' newDict false (eval iter X.env) use) Qf X.xe s := by
  have reach : ∀ y ∈ scope.names, y.2 = .free → ∃ c, X.env.cells.lookup y.1 = some c := fun y hy e => (blk.free y hy e).elim (fun k => I.ok.has _ (.inl k)) (fun k => I.ok.has _ (.inr k))
  refine comprehension_at (use := use) rfl fold (closure_ok reach) blk.kind (fun y hy e => by rw [blk.uniq y hy, e]) (thn (pi.run pins s σ H _ I want) fun xv sa hx => thn hx fun itv sb hb => ?_)
  obtain ⟨it, fp, tn, J, Hb, rfl, Ib, T, tb, fb, q⟩ := hb
  refine wpAny_newObj_type (newEnv_comp ?_)
  obtain ⟨D, hD⟩ : ∃ D : Addr, sb.heap.objs.size = D := ⟨_, rfl⟩
  rw [hD]
  have freeD : Hb D = none := Ib.hok.fresh (Nat.le_of_eq hD)
  obtain ⟨o0, ho0, W, ⟨m0, w0⟩, turn⟩ := q D freeD
  obtain ⟨sc, hsc⟩ : ∃ sc : Shared, ({ sb with heap := sb.heap.push { cls := .type "dict", data := .dict #[] } } : Shared) = sc := ⟨_, rfl⟩
  have heapc : sc.heap = sb.heap.push { cls := .type "dict", data := .dict #[] } := by rw [← hsc]
  rw [hsc]
  obtain ⟨Hc, hHc⟩ : ∃ Hc : Hp, upd Hb D o0 = Hc := ⟨_, rfl⟩
  have Ic : Inv X pins σ Hc sc := by
    rw [← hsc, ← hHc]
    refine Ib.laid (t' := sb.toks) (fun b o e => Heap.get?_push_of_some _ e) (Nat.le_of_eq hD) ?_
    rw [← hD]
    rcases ho0 with rfl | rfl
    · exact dk_empty sb.heap Ib.big
    · exact dt_empty sb.heap Ib.big
  have fc : ∀ b ∈ fp, FpOk X pins Hc b ∧ b < sc.heap.objs.size := fun b hb => by
    obtain ⟨o, e, _⟩ := T.obj _ _ tb b hb
    have lt := Heap.lt_size e
    refine ⟨⟨?_, (fb b hb).2⟩, by rw [heapc, Heap.size_push]; exact Nat.lt_succ_of_lt lt⟩
    rw [← hHc, upd_ne (by rw [← hD]; exact Nat.ne_of_lt lt)]
    exact (fb b hb).1
  have tc : tn 0 sc.heap := T.keep _ _ _ tb fun b _ o e => by rw [heapc]; exact Heap.get?_push_of_some _ e
  have Id0 := block_start Ic blk nd fc
  obtain ⟨ce, hce⟩ : ∃ ce : Env, compEnvC scope (cellsFrom (sc.heap.objs.size + 1) scope.names (cloFrom X.env.cells scope.names [])) sc.heap.objs.size X.env = ce := ⟨_, rfl⟩
  have ceL : ce.locals = sc.heap.objs.size := by rw [← hce]; rfl
  have PGb := pg sc Hc sc.heap.objs.size (cellsFrom (sc.heap.objs.size + 1) scope.names (cloFrom X.env.cells scope.names [])) fp
  have PKb := pk sc Hc sc.heap.objs.size (cellsFrom (sc.heap.objs.size + 1) scope.names (cloFrom X.env.cells scope.names [])) fp
  have PVb := pv sc Hc sc.heap.objs.size (cellsFrom (sc.heap.objs.size + 1) scope.names (cloFrom X.env.cells scope.names [])) fp
  rw [hHc] at w0
  rw [hce] at Id0 PGb PKb PVb
  obtain ⟨sd, hsd⟩ : ∃ sd : Shared, ({ sc with heap := pushCells (sc.heap.push { cls := .type "dict", data := .dict #[] }) scope.names } : Shared) = sd := ⟨_, rfl⟩
  show codeAny _ _ (.compStart (.DictComp kx vx [⟨tg, iter, [], 0⟩] scope pos) 0 (.ref it) (.ref D) (compEnvC scope (cellsFrom (sc.heap.objs.size + 1) scope.names (cloFrom X.env.cells scope.names [])) sc.heap.objs.size X.env))
    (compEnds (model X.prog X.w) X.A X.xe use Qf (.ref D) (compEnvC scope (cellsFrom (sc.heap.objs.size + 1) scope.names (cloFrom X.env.cells scope.names [])) sc.heap.objs.size X.env)) { sc with heap := pushCells (sc.heap.push { cls := .type "dict", data := .dict #[] }) scope.names }
  rw [hce, hsd]
  rw [hsd] at Id0
  have kd : ∀ b o, sc.heap.get? b = some o → sd.heap.get? b = some o := fun b o e => by rw [← hsd]; exact pushCells_keeps _ _ _ _ (Heap.get?_push_of_some _ e)
  have td : tn 0 sd.heap := T.keep _ _ _ tc fun b _ o e => kd b o e
  have liveB : Live (blkP X sc Hc scope ce fp) := live.elim .inl fun ⟨p, h1, h2⟩ => .inr ⟨p, h1, h2⟩
  -- the pins of the def stand in the block too
  have Id : Inv (blkP X sc Hc scope ce fp) [] (wipe σ (own.map (·.2))) Hc sd := by
    have k := Id0.ok
    refine ⟨⟨k.mod, k.kind, k.glob, k.blt, k.above, k.inj, k.has, k.cab, k.hd, k.frames, k.stk, k.exf, k.bs, k.bsz, k.noex, k.exfs, k.funs, k.frf⟩, Id0.os, Id0.bare, Id0.base, Id0.loc, Id0.cell, Id0.free, Id0.freeC, fun p hp => ?_, Id0.hok, Id0.len⟩
    rw [List.append_nil] at hp
    obtain ⟨e, n, nl, nf, d⟩ := Ic.pin p (List.mem_append_left _ hp)
    refine ⟨kd _ _ e, n, ?_, fun z => (List.mem_cons.mp (Ic.stkSub _ z)).elim nl nf, d⟩
    show p.1 ≠ ce.locals
    rw [ceL]
    exact Nat.ne_of_lt (Heap.lt_size e)
  let B : Cx := blkP X sc Hc scope ce fp
  have apart : ∀ p ∈ X.pn, ∀ b ∈ fp, p.1 ≠ b := fun p hp b hb => (fc b hb).1.2.2.2.2.2 p (List.mem_append_left _ hp)
  have own_fp : ∀ {σ' : L2.St} {H' : Hp} {s' : Shared}, Inv B [] σ' H' s' → (∀ b ∈ fp, H' b = none) → ∀ b ∈ fp, FpOk B [] H' b := fun {σ' H' s'} I' n b hb =>
    ⟨n b hb, (I'.ok.exf b hb).1, I'.ok.exfs b hb, .inl hb, fun x c e => (I'.ok.exf b hb).2 x c e, fun p hp => apart p (by simpa using hp) b hb⟩
  have loop : codeAny (model X.prog X.w) X.A (.compLoop (.DictComp kx vx [⟨tg, iter, [], 0⟩] scope pos) 0 (.ref it) (.ref D) ce) (compEnds (model X.prog X.w) X.A X.xe use Qf (.ref D) ce) sd := by
    refine compLoop_anyD (fun n s' => ∃ i H', Inv B [] (wipe σ (own.map (·.2))) H' s' ∧ tn i s'.heap ∧ (∀ b ∈ fp, H' b = none) ∧ W i n H') ?_ m0 ⟨0, Hc, Id, td, fun b hb => (fc b hb).1.1, w0⟩
    rintro n se ⟨i, He, Ie, te', ne, we⟩
    rcases turn i n He we with ⟨stop, fin⟩ | ⟨go, Nx, down, step⟩
    · refine thnF (T.done B rfl rfl rfl liveB i [] se _ He (fun _ _ => False) Ie (own_fp Ie ne) te' stop) fun r sf ⟨hr, If⟩ => ?_
      subst hr
      have none_ : He ce.locals = none := If.free
      obtain ⟨m, hn, _⟩ := If.loc
      have hn : sf.heap.Ns ce.locals m := hn
      rw [ceL] at none_ hn
      have Ix : Inv X pins σ He sf := Ic.call' (ch := fp) If.os If.base If.hok If.bare fun b hb => ⟨(fc b hb).1.2.2.2.1, (fc b hb).1.2.1, (fc b hb).1.2.2.2.2.1, (fc b hb).1.2.2.2.2.2⟩
      obtain ⟨f0, f1, f2, f3, f4, f5⟩ := Ic.fpOk (Nat.le_refl sc.heap.objs.size) none_
      exact hRR D ce sf m He Ix fin (by rw [ceL]; exact hn) (by rw [ceL]; exact ⟨f0, f1, f2, f3, f4, f5⟩)
    · refine thnF (T.item B rfl rfl rfl liveB i [] se _ He (fun _ _ => False) Ie (own_fp Ie ne) te' go) fun r sf ⟨u, hr, hu⟩ => ?_
      subst hr
      refine thnF hu fun _ sg ⟨x, Hg, Ig, rx, yx, tg', ng⟩ => ?_
      have Ip := Ig.pinned (own_fp Ig ng) (T.obj _ _ tg')
      refine thnF (PGb.run _ sg _ Hg x u _ Ip rx (step x Hg yx)) fun _ sh ⟨σh, Hh, Ih, wh, qh⟩ => ?_
      refine wpAny_tests_nil ?_
      simp only [if_true]
      refine thnF (PKb.run _ sh σh Hh _ Ih qh) fun z si ⟨yk, Hi, Ii, ri, qi⟩ => ?_
      refine thnF (PVb.run _ si σh Hi _ Ii qi) fun z2 sj ⟨yv, Hj, Ij, rj, Hk, put, nx⟩ => ?_
      refine put_comp (X := B) room Ij put ri rj fun sk Ik => ?_
      obtain ⟨k, lt, wk⟩ := down _ nx
      have pinned : ∀ b ∈ fp, ∀ o, sg.heap.get? b = some o → sk.heap.get? b = some o ∧ Hk b = none := fun b hb o e =>
        let z := Ik.pin (b, o) (List.mem_append_right _ (List.mem_append_right _ (mem_pinsAt hb e)))
        ⟨z.1, z.2.1⟩
      have len : (wipe σ (own.map (·.2))).length = σh.length := by rw [← wh, wipe_length]
      refine ⟨k, lt, i + 1, _, (Ik.unpinned (pins := [])).weak len (fun j v e => ?_), T.keep _ _ _ tg' fun b hb o e => (pinned b hb o e).1, fun b hb => ?_, wk⟩
      · rw [← wh] at e
        exact (wipe_some e).1
      · obtain ⟨o, e, _⟩ := T.obj _ _ tg' b hb
        exact (pinned b hb o e).2
  exact codeAny_compStart_dict loop (T.self X.A 0 _ _ _ td loop)
theorem pe_dcB {kx vx tg iter : Expr} {scope : Scope} {own : List (Str × Nat)} {pos : Pos} {wi : TI} {g : TG} {tk tv : TE} (live : Live X) (room : X.A.units + 1 < cLine) (nd : X.N.Nodup) (pi : PIB X tg iter wi) (blk : BlkOk X.N X.env.scope scope own)
    (pg : ∀ (s : Shared) (H : Hp) (C : Addr) (cl : List (Str × Addr)) (fp : List Addr), PG (blkP X s H scope (compEnvC scope cl C X.env) fp) tg g)
    (pk : ∀ (s : Shared) (H : Hp) (C : Addr) (cl : List (Str × Addr)) (fp : List Addr), PE (blkP X s H scope (compEnvC scope cl C X.env) fp) kx tk)
    (pv : ∀ (s : Shared) (H : Hp) (C : Addr) (cl : List (Str × Addr)) (fp : List Addr), PE (blkP X s H scope (compEnvC scope cl C X.env) fp) vx tv)
    (fold : ∀ x, foldedSetIterable iter X.env x = pure x := by intro _; rfl) : PE X (.DictComp kx vx [⟨tg, iter, [], 0⟩] scope pos) (tDcB wi g tk tv (own.map (·.2))) := by
  refine ⟨fun pins s σ H Q I want => ?_⟩
  rw [arm_eval_DictComp]
  exact dcB_core live room nd I pi blk pg pk pv fold want fun D ce sf m He Ix fin hn f => by
    obtain ⟨f0, f1, f2, f3, f4, f5⟩ := f
    exact ⟨m, hn, fun h' same => ⟨.ref D, He, Ix.turned (t' := sf.toks) (fun b o hb e => (same.2 b hb).trans e) f0 f1 f3 f4 f5, rfl, fin⟩⟩
/-- name = {..} on one line, the name a local -/
theorem ps_setDcB {i : Nat} {y : Str} {py : Pos} {kx vx tg iter : Expr} {scope : Scope} {own : List (Str × Nat)} {pos spos : Pos} {wi : TI} {g : TG} {tk tv : TE} (live : Live X) (room : X.A.units + 1 < cLine) (nd : X.N.Nodup) (hy : X.N[i]? = some y) (hyl : X.env.scope.names.lookup y = some .local)
    (hsw : swapsWith (.DictComp kx vx [⟨tg, iter, [], 0⟩] scope pos) (some (.Name y py)) spos.line X.env = pure true) (pi : PIB X tg iter wi) (blk : BlkOk X.N X.env.scope scope own)
    (pg : ∀ (s : Shared) (H : Hp) (C : Addr) (cl : List (Str × Addr)) (fp : List Addr), PG (blkP X s H scope (compEnvC scope cl C X.env) fp) tg g)
    (pk : ∀ (s : Shared) (H : Hp) (C : Addr) (cl : List (Str × Addr)) (fp : List Addr), PE (blkP X s H scope (compEnvC scope cl C X.env) fp) kx tk)
    (pv : ∀ (s : Shared) (H : Hp) (C : Addr) (cl : List (Str × Addr)) (fp : List Addr), PE (blkP X s H scope (compEnvC scope cl C X.env) fp) vx tv)
    (fold : ∀ x, foldedSetIterable iter X.env x = pure x := by intro _; rfl) : PS X (.Assign [.Name y py] (.DictComp kx vx [⟨tg, iter, [], 0⟩] scope pos) spos) (tAsg (tDcB wi g tk tv (own.map (·.2))) (gName i)) := by
  refine ⟨fun pins s σ H D I h => ?_⟩
  rw [exec_Assign_Name_used _ _ _ _ hsw]
  refine wpAny_bind (wpAny_standAt (wpAny_bind ?_))
  show wpAny _ X.A (do let _ ← comprehension (.DictComp kx vx [⟨tg, iter, [], 0⟩] scope pos) scope X.env (firstIterPos [⟨tg, iter, [], 0⟩] pos) newDict false (eval iter X.env) (some (assign (.Name y py) X.env))) _ _ s
  have h : tDcB wi g tk tv (own.map (·.2)) σ H (fun x H1 => gName i x σ H1 D.nx) := h
  refine wpAny_bind (thn (dcB_core (Qf := fun _ s' => SP X pins D .next s') live room nd I pi blk pg pk pv fold h fun L ce s' m H' I' q hn f => ?_) fun _ s' hq => wpAny_pure (wpAny_pure hq))
  show wpAny _ _ (assign (.Name y py) X.env (.ref L)) _ _ _
  refine wpAny_assign_Name (store_ok2 (v := V.ref L) I' nd hy (.inl hyl) rfl (fun s2 I2 ⟨a, sb, ha⟩ => ?_) (.inr hyl))
  obtain ⟨f0, f1, f2, f3, f4, f5⟩ := f
  have haC : ce.locals ≠ a := by
    rcases ha with z | z
    · rw [z]; exact f1
    · exact fun e => f4 y a z e.symm
  refine ⟨m, hn.sameBut sb haC, fun h3 sb3 => ?_⟩
  exact ⟨_, H', I2.turned (t' := s2.toks) (fun b o hb e => (sb3.2 b hb).trans e) f0 f1 f3 f4 f5, q⟩
theorem sw_trueD {kx vx : Expr} {gs : List Comprehension} {scope : Scope} {pos py : Pos} {y : Str} {l : Nat} {env : Env} (hk : env.scope.kind = .function) (hy : env.scope.names.lookup y = some .local) (hl : (py.line == pos.line) = true)
    (ha : (scope.names.any fun (n, k) => n == y && (k == .local || k == .cell)) = false) : swapsWith (.DictComp kx vx gs scope pos) (some (.Name y py)) l env = pure true := by
  have ky : env.kindOf y = some .local := hy
  have hb : env.blockKind = .function := by unfold Env.blockKind; rw [hk]; rfl
  unfold swapsWith
  simp only [hb, ky, ha, Expr.pos, hl]
  rfl
end
end Rk
/-! An instance made in an except suite. -/
namespace Rk
open PySem PySem.Spec PyProof.Rows L2 L2H
section
variable {X : Cx} {W : CXT} {lv : Nat} {g C : Addr} {fd : FuncData} {names : List Str} {pr : Sp} {E : XK} {x : Str} {p pos : Pos} {arg : Expr} {more : List Expr} {ta : TA}
theorem pe_makeH (M : Mk X.K C g) (fn : FnH X.prog X.w X.K X.mg X.base W lv g fd names pr) (room : RoomH (lv + 1) X.A) (hot : HotC X) (bd : Binds X.K fd names []) (gl : Gl X x) (at_ : X.mg x = some (.ref C)) (pass : Passes W X E)
    (ha : PA X (arg :: more) ta) (dbg : (x == ("__debug__" : Str)) = false := by decide) (st : starEach (arg :: more) X.env = (false, eval arg X.env) :: starEach more X.env := by rfl) (nos : (backTo pos (starEach more X.env)).any (·.1) = false := by rfl) :
    PE X (.Call (.Name x p) (arg :: more) [] pos) (tMake C pr [] E ta) := by
  refine ⟨fun pins s σ H Q I want => wpAny_Call_Name_kw (ld_glob I gl at_ ?_ dbg)⟩
  refine PySem.W.callWith_K (h₀ := X.base) I.ok.mod.kin M.kp (thn (ha.run pos pins s σ H _ I want) fun us sa hu => ?_) st nos
  obtain ⟨vs, Ha, Ia, va, wa⟩ := hu
  refine ⟨Ia.kIn, ?_⟩
  obtain ⟨q, hq, mem⟩ := hot
  let ad : Addr := sa.heap.objs.size + 1
  have want1 := wa ad sa.heap.objs.size (Ia.hok.fresh (Nat.le_succ _)) (Ia.hok.fresh (Nat.le_refl _)) (Nat.ne_of_lt (Nat.lt_succ_self _))
  rw [List.append_nil] at want1
  have Ib := Inv.made (C := C) Ia
  have vb : Vals (V.ref ad :: vs) (Value.ref ad :: us) := .cons rfl va
  have len : (Value.ref ad :: us ++ []).length = names.length := by rw [List.append_nil, ← vb.length]; exact fn.len _ _ _ _ want1
  have bb := bd _ (Value.ref ad :: us) Ib.kIn len
  rw [List.append_nil] at bb
  obtain ⟨p1, p2, p3, p4, p5⟩ := Ib.pin q (List.mem_append_left _ mem)
  refine wpAny_call (make_map (f := g) Ia.kIn M.makes M.init (beq_iff_eq.mp M.fn) (codeAny_mono (fn.run _ X.stack _ _ ⟨Value.ref ad :: us, []⟩ _ _ _ E q (room.make C us []) ⟨hq.1, hq.2⟩
    ⟨p1, p2, fun z => (List.mem_cons.mp (Ib.stkSub _ z)).elim p3 p4, p5⟩ (Ib.env0.make C us []) bb vb want1) fun r out hr => ?_))
  match r, hr with
  | .error er, hr => exact pass pins σ _ _ er out Ib hr
  | .ok (.ret u), hr =>
    obtain ⟨v, Hz, Iz, rv, ev, wz⟩ := Ib.after hr
    subst ev
    exact ⟨rv, V.ref ad, Hz, Iz, rfl, wz⟩
end
end Rk
/-! try .. except X as n: .. and clauses behind it, where what the body raises is an X. -/
namespace Rk
open PySem PySem.Spec PyProof.Rows L2
/-- what is wished of the body's exception -/
def wFst (K : PySem.W.Frag) (c : Value) (i : Nat) (ts : Addr → Value → Option Addr → TS) (D : Ends) : WX := fun cls d σ H => PySem.W.exmOne K cls c = some true ∧ ∀ a, H a = none →
  ts a cls d { nx := fun τ G => D.nx (τ.set i none) G, rt := D.rt, bk := fun τ G => D.bk (τ.set i none) G, ct := fun τ G => D.ct (τ.set i none) G } (σ.set i (some (.ref a))) H
section
variable {X : Cx} {x n : Str} {c : Value} {i : Nat} {body suite : List Stmt} {b0 : Stmt} {rest : List ExceptHandler} {np pos pos' : Pos} {tb : WX → TS} {ts : Addr → Value → Option Addr → TS}
theorem ps_try_first (st : X.stack = X.env :: X.outer) (fr : X.env.frame = some X.env.locals) (nd : X.N.Nodup) (at_ : X.N[i]? = some n) (loc : X.env.kindOf n = some .local) (cls_ : Names X x c)
    (hb : ∀ (W : WX) (pn : List (Addr × Obj)) (xe : Value → Shared → Prop), L2N.Takes (X.tr pn xe) W → PassesOwn (model X.prog X.w) X.A X.env xe → PSs (X.tr pn xe) body (tb W))
    (hsu : ∀ (a : Addr) (oe : Obj) (cls : Value) (d : Option Addr) (pn : List (Addr × Obj)), L2N.Zn cls d oe → (∃ vs, oe.data = .fields vs) → PSs (X.suite a ((a, oe) :: pn)) (b0 :: suite) (ts a cls d)) :
    PS X (.Try body (.ExceptHandler (some (.Name x np)) (some n) (b0 :: suite) pos' :: rest) [] [] pos) (fun D σ H => tb (wFst X.K c i ts D) D σ H) := by
  refine ⟨fun pins s σ H D I want => wpAny_Try_except ?_⟩
  have okX := I.ok
  have frames : X.A.frames = some (X.env :: X.outer) := okX.frames.trans (congrArg some st)
  refine wpAny_mono ((hb (wFst X.K c i ts D) (X.pn ++ pins) (fun e sa => wpAny (model X.prog X.w) X.A (noteFrame e X.env) (fun _ sb => wpAny (model X.prog X.w) X.A (setFlight e none) (fun _ sc =>
    wpAny (model X.prog X.w) X.A (handleBy e X.env (.ExceptHandler (some (.Name x np)) (some n) (b0 :: suite) pos' :: rest)) (SP X pins D) X.xe sc) X.xe sb) X.xe sa) (fun u sx air => ?_) PassesOwn.looking).run [] s σ H D (I.toTry _) want) (fun fl sx hfl => ?_) fun _ _ z => z
  · obtain ⟨a, B, sI, pn, σx, Hx, cls, d, rfl, Ix, ground, up0, sky, nota, os, ag, yes, goes⟩ := air
    have J : Inv X pins σx Hx sI := Ix.ofTry okX
    have sky' : L2.Sky B (X.env :: X.outer) a (L2N.Zn cls d) X.env.locals sx.heap := st ▸ sky
    show wpAny (model X.prog X.w) X.A (noteFrame (.ref a) X.env) _ _ _
    refine L2N.Sky.land L2N.Zn.steady frames fr sky' fun h3 fly3 up3 => ?_
    have J3 : Inv X pins σx Hx { sx with heap := h3 } := J.landed ground fly3.1 (up0.trans up3) os ag
    obtain ⟨oe3, vs3, g3, z3, d3⟩ := fly3.there
    have off : a ∉ frs (X.env :: X.outer) := fun m => by
      obtain ⟨_, o', e', nf⟩ := fly3.2.2.1.mem m
      exact nf _ (Option.some.inj (g3.symm.trans e') ▸ d3)
    have offL : a ≠ X.env.locals := fun z => off (List.mem_filterMap.mpr ⟨X.env, List.mem_cons_self, by rw [fr, z]⟩)
    have offF : a ∉ X.fs := fun m => let ⟨e, he, q⟩ := List.mem_filterMap.mp m; off (List.mem_filterMap.mpr ⟨e, List.mem_cons_of_mem _ he, q⟩)
    have S3 := J3.suite g3 d3 nota offL offF
    refine wpAny_handleBy_cons (codeAny_handlers_test ?_) (by intro q; cases q)
    have class_ : PySem.W.Looks (model X.prog X.w) h3 (typeOf (.ref a)) cls := fun _ _ _ _ k q => wpAny_typeOf_ref (k _ _ g3) (by rw [z3.1]; exact q)
    have named : ∀ {Q : Value → Shared → Prop} {E : Value → Shared → Prop}, Q c { sx with heap := h3 } → wpAny (model X.prog X.w) (X.A.mark (some (.ref a))) (eval (.Name x np) X.env) Q E { sx with heap := h3 } := fun {Q E} q => by
      obtain ⟨gl, db, m | ⟨m, v, nn⟩⟩ := cls_
      · exact ld_glob (X := X.suite a ((a, oe3) :: (X.pn ++ pins))) S3 gl m q db
      · exact ld_blt (X := X.suite a ((a, oe3) :: (X.pn ++ pins))) S3 gl m v q nn db
    refine named ((PySem.W.exm_one (M := model X.prog X.w) J3.kIn class_ yes).here (codeAny_handlers_suite_as (HandSPX.lands_againZ fly3 fun h4 fly4 up4 => ?_)))
    have J4 : Inv X pins σx Hx { sx with heap := h4 } := J.landed ground fly4.1 ((up0.trans up3).trans up4) os ag
    obtain ⟨oe4, vs4, g4, z4, d4⟩ := fly4.there
    refine store_ok (X := X.suite a ((a, oe4) :: (X.pn ++ pins))) (v := .ref a) (J4.suite g4 d4 nota offL offF) nd at_ (.inl loc) rfl (fun s5 S5 => ?_) (.inr loc)
    refine wpAny_mono ((hsu a oe4 cls d (X.pn ++ pins) z4 ⟨_, d4⟩).run [] s5 _ Hx _ S5 (goes a nota)) (fun fl s6 hs6 => ?_) fun _ _ z => z.elim
    have leave : ∀ {τ : L2.St} {G : Hp} {R : Shared → Prop}, Inv (X.suite a ((a, oe4) :: (X.pn ++ pins))) [] τ G s6 → (∀ s7, Inv X pins (τ.set i none) G s7 → R s7) →
        wpAny (model X.prog X.w) X.A (do bindName X.env n .none; unbindBehindTheSuite X.env n pos') (fun _ s7 => R s7) X.xe s6 := fun S r => gone_ok (S.unsuite okX) nd at_ loc r
    match fl, hs6 with
    | .next, ⟨_, _, S, q⟩ => exact leave S fun _ J => ⟨_, _, J, q⟩
    | .brk, ⟨_, _, S, q⟩ => exact leave S fun _ J => ⟨_, _, J, q⟩
    | .cont, ⟨_, _, S, q⟩ => exact leave S fun _ J => ⟨_, _, J, q⟩
    | .ret _, ⟨_, _, _, S, r, q⟩ => exact leave S fun _ J => ⟨_, _, _, J, r, q⟩
  · match fl, hfl with
    | .next, ⟨_, _, J, q⟩ => exact wpAny_execs_nil ⟨_, _, J.ofTry okX, q⟩
    | .brk, ⟨_, _, J, q⟩ => exact ⟨_, _, J.ofTry okX, q⟩
    | .cont, ⟨_, _, J, q⟩ => exact ⟨_, _, J.ofTry okX, q⟩
    | .ret _, ⟨_, _, _, J, r, q⟩ => exact ⟨_, _, _, J.ofTry okX, r, q⟩
end
end Rk
/-! {k: v}, k a tuple; the context where nothing is handled needs no more. -/
namespace Rk
open PySem PySem.Spec PyProof.Rows L2
def tDispT (tk tv : TE) : TE := fun σ H Q => ∀ p, H p = none → tk σ (upd H p (.dT [])) fun x Ha => tv σ Ha fun y Hb => Hb p = some (.dT []) ∧ ∃ k b, x = .ref b ∧ Hb b = some (.tup (k.map kV)) ∧ Q (.ref p) (upd Hb p (.dT [(k, y)]))
theorem pe_dispT {X : Cx} {k v : Expr} {tk tv : TE} {pos : Pos} (room : X.A.units + 1 < cLine) (hk : PE X k tk) (hv : PE X v tv) : PE X (.Dict [some k] [v] pos) (tDispT tk tv) := by
  refine ⟨fun pins s σ H Q I want => ?_⟩
  have fr : H s.heap.objs.size = none := I.hok.fresh (Nat.le_refl _)
  have I0 := I.laid (a := s.heap.objs.size) (o := .dT []) (h' := s.heap.push { cls := .type "dict", data := .dict #[] }) (t' := s.toks) (fun _ _ q => Heap.get?_push_of_some _ q) (Nat.le_refl _) (dt_empty s.heap I.big)
  rw [arm_eval_Dict, zip_pairTrees [some k] [v] X.env pos rfl rfl, dictDisplay_pairs (pairTrees [some k] [v] X.env pos) (by simp [pairTrees]) (by simp [pairTrees])]
  refine wpAny_bind (wpAny_standAt (wpAny_bind (wpAny_subDictH (knd := tupleKind (mixKind X.prog X.w)) (show X.A.units < cLine by omega) (by simp [pairTrees]) ?_)))
  refine pairTrees_cons_walk (thn (hk.run pins _ σ _ _ I0 (want _ fr)) fun u sa ⟨x, Ha, Ia, rx, qa⟩ => thn (hv.run pins sa σ Ha _ Ia qa) fun r sb ⟨y, Hb, Ib, ry, at_, key, b, ex, kb, q⟩ => pairTrees_nil_walk ?_)
  subst ex
  obtain rfl : u = Value.ref b := rx
  obtain ⟨z, sys, xs, rel, dd⟩ := dt_of Ib.hok at_
  cases rel
  refine ⟨[(key, b, r)], ⟨rfl, rfl, key_of Ib.hok kb, trivial⟩, dd, fun h' tk dd' same => wpAny_pure ⟨.ref s.heap.objs.size, _, ?_, rfl, q⟩⟩
  obtain ⟨o, es, ep, go, f2, f3, f4, _, f5⟩ := dd'
  refine d_write Ib (by rw [at_]; trivial) same ⟨o, go⟩ ⟨by show 1 ≤ sizeLine; decide, sys, [(key, b, r)], .cons ⟨rfl, ?_, ry⟩ .nil, o, es, ep, go, f2, f3, f4, by simp⟩
  rw [upd_ne (ne_of kb at_ fun z => nomatch z)]
  exact kb
end Rk
/-! sorted(xs), xs a list of tuples of ints of any lengths, the empty one among them too. -/
namespace Rk
open PySem PySem.Spec PyProof.Rows L2
theorem lex_irr : ∀ ns : List Int, HT.lexLt ns ns = false
  | [] => rfl
  | x :: xs => by rw [HT.lexLt_cons, if_pos rfl]; exact lex_irr xs
theorem lex_total : ∀ {ns ms : List Int}, HT.lexLt ns ms = false → HT.lexLt ms ns = false → ns = ms
  | [], [], _, _ => rfl
  | [], _ :: _, h, _ => Bool.noConfusion h
  | _ :: _, [], _, h => Bool.noConfusion h
  | x :: xs, y :: ys, h, g => by
    rw [HT.lexLt_cons] at h g
    by_cases e : x = y
    · rw [if_pos e] at h
      rw [if_pos e.symm] at g
      rw [e, lex_total h g]
    · rw [if_neg e] at h
      rw [if_neg (Ne.symm e)] at g
      have := of_decide_eq_false h
      have := of_decide_eq_false g
      omega
theorem lex_asym : ∀ {ns ms : List Int}, HT.lexLt ns ms = true → HT.lexLt ms ns = false
  | [], [], h => Bool.noConfusion h
  | [], _ :: _, _ => rfl
  | _ :: _, [], h => Bool.noConfusion h
  | x :: xs, y :: ys, h => by
    rw [HT.lexLt_cons] at h ⊢
    by_cases e : x = y
    · rw [if_pos e] at h
      rw [if_pos e.symm]
      exact lex_asym h
    · rw [if_neg e] at h
      rw [if_neg (Ne.symm e)]
      have := of_decide_eq_true h
      exact decide_eq_false (by omega)
/-- not more and not more: not more -/
theorem lex_tr : ∀ {a b c : List Int}, HT.lexLt b a = false → HT.lexLt c b = false → HT.lexLt c a = false
  | [], [], _, _, h => h
  | [], _ :: _, [], _, h => Bool.noConfusion h
  | [], _ :: _, _ :: _, _, _ => rfl
  | _ :: _, [], _, h, _ => Bool.noConfusion h
  | x :: xs, y :: ys, [], _, h => Bool.noConfusion h
  | x :: xs, y :: ys, z :: zs, h, g => by
    rw [HT.lexLt_cons] at h g ⊢
    by_cases e : y = x
    · by_cases f : z = y
      · rw [if_pos e] at h
        rw [if_pos f] at g
        rw [if_pos (f.trans e)]
        exact lex_tr h g
      · rw [if_neg f] at g
        rw [if_neg (by rw [← e]; exact f), ← e]
        exact g
    · rw [if_neg e] at h
      by_cases f : z = y
      · rw [if_neg (by rw [f]; exact e), f]
        exact h
      · rw [if_neg f] at g
        have := of_decide_eq_false h
        have := of_decide_eq_false g
        rw [if_neg (by omega)]
        exact decide_eq_false (by omega)
/-- two sorted rows of the same keys are the same -/
theorem sorted_same : ∀ {xs ys : List (List Int)}, xs.Perm ys → xs.Pairwise (fun a b => HT.lexLt b a = false) → ys.Pairwise (fun a b => HT.lexLt b a = false) → xs = ys
  | [], ys, p, _, _ => (List.nil_perm.mp p).symm ▸ rfl
  | x :: xs, [], p, _, _ => absurd p.length_eq (by simp)
  | x :: xs, y :: ys, p, hx, hy => by
    have hx' := List.pairwise_cons.mp hx
    have hy' := List.pairwise_cons.mp hy
    have e : x = y := by
      rcases List.mem_cons.mp (p.mem_iff.mp List.mem_cons_self) with e | m
      · exact e
      · rcases List.mem_cons.mp (p.mem_iff.mpr List.mem_cons_self) with e | m'
        · exact e.symm
        · exact lex_total (hy'.1 x m) (hx'.1 y m') |>.symm ▸ rfl
    subst e
    rw [sorted_same (List.Perm.cons_inv p) hx'.2 hy'.2]
section
variable {prog : Program} {w : World} {A : Around} {E : Value → Shared → Prop} {s : Shared}
/-- a value that is a tuple of ints there -/
abbrev IntT (h : Heap) (v : Value) (ns : List Int) : Prop := TS.TupInts h v ns
theorem intT_keeps {h h' : Heap} {v : Value} {ns : List Int} (x : IntT h v ns) {a : Addr} (ha : ∀ o, h.get? a = some o → o.cls ≠ .type "tuple") (k : ∀ b o, b ≠ a → h.get? b = some o → h'.get? b = some o) : IntT h' v ns :=
  x.keeps fun b o e c => k b o (fun z => ha o (z ▸ e) c) e
/-- < of the tuples' items from the left -/
theorem lex_run {b fin : Bool} {Q : Bool → Shared → Prop} : ∀ {xs ys : List Value} {ns ms : List Int} (i : Nat), IntsAre xs ns → IntsAre ys ms → fin = decide (ns.length < ms.length) → Q (HT.lexLt ns ms) s → PySem.W.KatLex prog w A b fin Q (xs.zip ys) i s
  | _, _, [], [], i, .nil, .nil, hf, h => by subst hf; exact PySem.W.kat_nil h
  | _, _, [], _ :: _, i, .nil, .cons q u hy, hf, h => by subst hf; exact PySem.W.kat_nil (by rw [HT.lexLt_nil_cons] at h; simpa using h)
  | _, _, _ :: _, [], i, .cons p t hx, .nil, hf, h => by subst hf; exact PySem.W.kat_nil (by rw [HT.lexLt_cons_nil] at h; simpa using h)
  | _, _, p :: ns, q :: ms, i, .cons _ t hx, .cons _ u hy, hf, h => by
    rw [List.zip_cons_cons]
    refine PySem.W.kat_cons (wpAny_eqBool_int ?_)
    rw [HT.lexLt_cons] at h
    by_cases e : p = q
    · subst e
      rw [if_pos rfl] at h
      rw [beq_self_eq_true]
      exact PySem.W.kat_yes (lex_run (i + 1) hx hy (by rw [hf]; simp) h)
    · rw [if_neg e] at h
      rw [show (p == q) = false from beq_eq_false_iff_ne.mpr e]
      exact PySem.W.kat_no (TS.oneLt_ints _ h)
theorem lt_general {c : Bool} {x y : Value} {ns ms : List Int} {Q : Bool → Shared → Prop} (hu : A.units < cLine) (hx : IntT s.heap x ns) (hy : IntT s.heap y ms) (h : Q (HT.lexLt ns ms) s) : wpAny (model prog w) A (oneLt' c x y) Q E s := by
  obtain ⟨a, xs, rfl, ta, ia⟩ := hx
  obtain ⟨d, ys, rfl, td, id_⟩ := hy
  cases c with
  | false => exact PySem.W.kat_one _ _ (HT.lt_tupInts ta td ia id_ hu h)
  | true =>
    rw [oneLt'_eq]
    simp only [if_true]
    refine wpAny_bind (wpAny_cRoomFor hu ?_)
    obtain ⟨⟨c1, d1, t1, s1⟩, g1, e1, n1, f1⟩ := id ta
    obtain ⟨⟨c2, d2, t2, s2⟩, g2, e2, n2, f2⟩ := id td
    simp only at e1 f1 e2 f2
    subst e1 f1 e2 f2
    refine wpAny_bind (wpAny_callSpecialIfBound?_slot (T := "tuple") ⟨_, g1, rfl⟩ PySem.F.slot_tuple_lt (call_meets PySem.F.slot_tuple_lt ⟨_, g1, rfl⟩ PySem.F.entry_tuple_lt (PySem.F.args_tuple_lt_2 _ _)
      (HT.tuple_lt_ints a d xs ys n1 n2 d1 d2 s1 s2 ns ms ia id_) ⟨g1, g2, ?_⟩))
    exact wpAny_truthy_bool h
theorem lt_tuples {c : Bool} {x y : Value} {ns ms : List Int} {Q : Bool → Shared → Prop} (hx : IntT s.heap x ns) (hy : IntT s.heap y ms) (h : Q (HT.lexLt ns ms) s) : wpAny (model prog w) A (keyLt' (tuples' c) x y) Q E s := by
  obtain ⟨a, xs, rfl, ⟨o1, g1, e1, n1, f1⟩, ia⟩ := hx
  obtain ⟨d, ys, rfl, ⟨o2, g2, e2, n2, f2⟩, id_⟩ := hy
  have l1 := ia.length
  have l2 := id_.length
  rw [Array.length_toList] at l1 l2
  exact PySem.W.kat_lt g1 f1 g2 f2 (lex_run 0 ia id_ (by rw [l1, l2]) h)
/-- the first item of a tuple -/
def fstOf (h : Heap) : Value → Option Value
  | .ref a => match h.get? a with
    | some o => (match o.data with
      | .seq xs _ => xs[0]?
      | _ => none)
    | none => none
  | _ => none
theorem fstOf_at {h : Heap} {a : Addr} {o : Obj} {xs : Array Value} {n : Nat} (g : h.get? a = some o) (f : o.data = .seq xs n) : fstOf h (.ref a) = xs[0]? := by simp [fstOf, g, f]
theorem firsts_run : ∀ (vs : List Value) {Q : List (Option Value) → Shared → Prop}, (∀ v ∈ vs, ∃ ns, IntT s.heap v ns) → Q (vs.map (fstOf s.heap)) s → wpAny (model prog w) A (vs.mapM firstOfTuple') Q E s
  | [], Q, _, h => by rw [List.mapM_nil]; exact wpAny_pure h
  | v :: vs, Q, hv, h => by
    rw [List.mapM_cons]
    refine wpAny_bind ?_
    obtain ⟨ns, a, xs, rfl, ⟨o, g, e, n, f⟩, i⟩ := hv _ List.mem_cons_self
    rw [PySem.W.kas_first_eq]
    refine wpAny_bind (PySem.W.Looks.here (show PySem.W.Looks (model prog w) s.heap (typeOf (.ref a)) o.cls from (PySem.W.Looks.ld g).andThen .now) ?_)
    rw [e, if_neg (by first | decide | simp)]
    refine wpAny_bind (listItems_at g f (wpAny_pure (wpAny_bind (firsts_run vs (fun u m => hv u (List.mem_cons_of_mem _ m)) (wpAny_pure ?_)))))
    rw [List.map_cons, fstOf_at g f] at h
    exact h
theorem fstOf_int {h : Heap} {v : Value} {ns : List Int} {u : Value} (x : IntT h v ns) (e : fstOf h v = some u) : ∃ i t, u = Value.int i t := by
  obtain ⟨a, xs, rfl, ⟨o, g, _, n, f⟩, i⟩ := x
  rw [fstOf_at g f] at e
  exact i.all u (List.mem_of_getElem? (l := xs.toList) (i := 0) (by simpa using e))
/-- what the sort takes the keys for -/
def kindT (h : Heap) (vs : List Value) : SortKind := if (vs.map (fstOf h)).all (·.isSome) = true then tuples' true else if (((vs.map (fstOf h))[0]?).bind id).isSome = true then general' else oneType'
theorem type_tup {v : Value} {ns : List Int} (x : IntT s.heap v ns) : PySem.W.Looks (model prog w) s.heap (typeOf v) (.type "tuple") := by
  obtain ⟨a, xs, rfl, ⟨o, g, e, _⟩, _⟩ := x
  rw [← e]
  exact (PySem.W.Looks.ld g).andThen .now
theorem kind_run {vs : List Value} {Q : SortKind → Shared → Prop} (ne : vs ≠ []) (hv : ∀ v ∈ vs, ∃ ns, IntT s.heap v ns) (h : Q (kindT s.heap vs) s) : wpAny (model prog w) A (keyKind' vs.toArray) Q E s := by
  rw [PyProof.Rows.kat_kind_eq, List.mapM_toArray, map_eq_pure_bind]
  refine wpAny_bind (wpAny_bind (firsts_run vs hv (wpAny_pure ?_)))
  unfold kindT at h
  by_cases c1 : (vs.map (fstOf s.heap)).all (·.isSome) = true
  · rw [if_pos c1] at h
    rw [if_pos (show ((vs.map (fstOf s.heap)).toArray.all fun x => x.isSome) = true by simpa using c1)]
    refine wpAny_bind (wpAny_rule ?_)
    obtain ⟨us, hus⟩ : ∃ us : List Value, vs.map (fstOf s.heap) = us.map some := by
      refine ⟨(vs.map (fstOf s.heap)).filterMap id, ?_⟩
      have all : ∀ l : List (Option Value), l.all (·.isSome) = true → l = (l.filterMap id).map some := by
        intro l
        induction l with
        | nil => intro _; rfl
        | cons o r ih =>
          intro z
          rw [List.all_cons, Bool.and_eq_true] at z
          cases o with
          | none => exact Bool.noConfusion z.1
          | some v => exact congrArg (some v :: ·) (ih z.2)
      exact all _ c1
    have whole : ∀ u ∈ us, ∃ i t, u = Value.int i t := fun u m => by
      have m2 : some u ∈ vs.map (fstOf s.heap) := by rw [hus]; exact List.mem_map.mpr ⟨u, m, rfl⟩
      obtain ⟨v, mv, e⟩ := List.mem_map.mp m2
      obtain ⟨ns, x⟩ := hv v mv
      exact fstOf_int x e
    have len : us.length = vs.length := by have e := congrArg List.length hus; rw [List.length_map, List.length_map] at e; exact e.symm
    have fm : (vs.map (fstOf s.heap)).toArray.filterMap id = us.toArray := by rw [hus]; simp
    rw [fm, oneTypeOnly'_eq, List.mapM_toArray, map_eq_pure_bind]
    refine wpAny_bind (wpAny_bind (wpAny_bind (PySem.W.kas_mapM (r := Value.type "int") _ (fun u m Q' hq => ?_) (wpAny_pure ?_))))
    · obtain ⟨i, t, rfl⟩ := whole u m
      exact (PySem.W.Looks.of_pure rfl).here hq
    · cases us with
      | nil => cases vs with
        | nil => exact absurd rfl ne
        | cons _ _ => simp at len
      | cons u0 ur =>
        have h0 : (List.map (fun _ => Value.type "int") (u0 :: ur)).toArray[0]? = some (Value.type "int") := by simp
        have ha : ((List.map (fun _ => Value.type "int") (u0 :: ur)).toArray.all fun x => x == Value.type "int") = true := by
          simp only [List.all_toArray, List.all_map, List.all_eq_true]
          intro _ _
          rfl
        rw [h0]
        simp only [ha, if_true]
        exact wpAny_pure (wpAny_pure h)
  · rw [if_neg c1] at h
    rw [if_neg (show ¬ ((vs.map (fstOf s.heap)).toArray.all fun x => x.isSome) = true by simpa using c1)]
    have e0 : (vs.map (fstOf s.heap)).toArray[0]? = (vs.map (fstOf s.heap))[0]? := by simp
    rw [e0]
    by_cases c2 : (((vs.map (fstOf s.heap))[0]?).bind id).isSome = true
    · rw [if_pos c2] at h ⊢
      exact wpAny_pure h
    · rw [if_neg c2] at h ⊢
      rw [oneTypeOnly'_eq, List.mapM_toArray, map_eq_pure_bind]
      refine wpAny_bind (wpAny_bind (wpAny_bind (PySem.W.kas_mapM (r := Value.type "tuple") _ (fun u m Q' hq => ?_) (wpAny_pure ?_))))
      · obtain ⟨ns, x⟩ := hv u m
        exact (type_tup x).here hq
      · cases vs with
        | nil => exact absurd rfl ne
        | cons u0 ur =>
          have h0 : (List.map (fun _ => Value.type "tuple") (u0 :: ur)).toArray[0]? = some (Value.type "tuple") := by simp
          have ha : ((List.map (fun _ => Value.type "tuple") (u0 :: ur)).toArray.all fun x => x == Value.type "tuple") = true := by
            simp only [List.all_toArray, List.all_map, List.all_eq_true]
            intro _ _
            rfl
          rw [h0]
          simp only [ha, if_true]
          exact wpAny_pure (wpAny_pure h)
/-- the ints of a tuple there -/
def intsOf (h : Heap) : Value → List Int
  | .ref a => match h.get? a with
    | some o => (match o.data with
      | .seq xs _ => xs.toList.map SrtO.iv
      | _ => [])
    | none => []
  | _ => []
theorem intsOf_at {h : Heap} {v : Value} {ns : List Int} (x : IntT h v ns) : intsOf h v = ns := by
  obtain ⟨a, xs, rfl, ⟨o, g, _, n, f⟩, i⟩ := x
  simp only [intsOf, g, f]
  exact SrtO.iv_ints i
theorem swo_ints (h : Heap) : SrtO.Swo fun v u => HT.lexLt (intsOf h v) (intsOf h u) := ⟨fun _ _ => lex_asym, fun _ _ _ => lex_tr⟩
theorem tups_sortable {a : Addr} {vs : List Value} (h2 : 2 ≤ vs.length) (hu : A.units < cLine) (hv : ∀ v ∈ vs, ∃ ns, IntT s.heap v ns) (ha : ∀ o, s.heap.get? a = some o → o.cls ≠ .type "tuple") (h0 : Heap) (hk : ∀ v ∈ vs, intsOf h0 v = intsOf s.heap v) :
    SrtO.SortableO (prog := prog) (w := w) (A := A) (s := s) a vs fun v u => HT.lexLt (intsOf h0 v) (intsOf h0 u) := by
  intro h' keep
  have hv' : ∀ v ∈ vs, IntT h' v (intsOf h0 v) := fun v m => by
    obtain ⟨ns, x⟩ := hv v m
    rw [hk v m, intsOf_at x]
    exact intT_keeps x ha keep
  refine ⟨kindT h' vs, fun Q E hq => kind_run (s := { s with heap := h' }) (by intro z; subst z; simp at h2) (fun v m => ⟨_, hv' v m⟩) hq, fun p q hp hq => ?_⟩
  have x := hv' _ hp
  have y := hv' _ hq
  unfold kindT
  split
  · exact lt_tuples (s := { s with heap := h' }) x y ⟨rfl, rfl⟩
  · split
    · exact lt_general (c := false) (s := { s with heap := h' }) hu x y ⟨rfl, rfl⟩
    · exact lt_general (c := true) (s := { s with heap := h' }) hu x y ⟨rfl, rfl⟩
end
/-- sorted(xs), xs a list of tuples of ints: each entry the tuple's address and its ints -/
def rSortedT (K : PySem.W.Frag) : List V → Hp → VK → Prop := fun vs H Q => ∃ (a : Addr) (es : List (Addr × List Int)), vs = [V.ref a] ∧ SqL K H a (es.map fun e => V.ref e.1) ∧ (∀ e ∈ es, H e.1 = some (.tup (e.2.map V.int))) ∧
  ∀ (fs : List (Addr × List Int)) (p : Addr), fs.Perm es → (fs.map (·.2)).Pairwise (fun x y => HT.lexLt y x = false) → H p = none → Q (.ref p) (upd H p (.lst (fs.map fun e => V.ref e.1)))
theorem cr_sortedT {X : Cx} (hu : X.A.units + 64 < cLine) : CallR X (.builtin "sorted") (rSortedT X.K) := by
  intro pins s σ H vs us Q I r h
  obtain ⟨a, es, rfl, hs, ht, q⟩ := h
  obtain ⟨its, rv, hl, hz⟩ := I.list hs
  rw [Vals.ref1 r]
  have eits : its = es.map fun e => Value.ref e.1 := by
    have all : ∀ {l : List (Addr × List Int)} {m : List Value}, Vals (l.map fun e => V.ref e.1) m → m = l.map fun e => Value.ref e.1 := by
      intro l
      induction l with
      | nil => intro m v; cases v; rfl
      | cons e l ih => intro m v; rw [List.map_cons] at v; cases v with | cons r1 r2 => rw [ih r2, List.map_cons]; exact congrArg (· :: _) r1
    exact all rv
  have hint : ∀ e ∈ es, IntT s.heap (.ref e.1) e.2 := fun e m => by
    obtain ⟨_, its2, r2, t⟩ := I.hok _ _ (ht e m)
    exact ⟨e.1, its2.toArray, rfl, t, by simpa using r2.ints⟩
  have hv : ∀ v ∈ its, ∃ ns, IntT s.heap v ns := fun v m => by
    rw [eits] at m
    obtain ⟨e, me, rfl⟩ := List.mem_map.mp m
    exact ⟨e.2, hint e me⟩
  refine SrtO.sorted_ord (swo_ints s.heap) hl.isList (by rw [← rv.length]; exact hz) (fun h2 h1 a' at_ keep => ?_) fun out o1 o2 => ?_
  · refine tups_sortable (s := { s with heap := h1 }) h2 (by show X.A.units + 1 + 1 < cLine; omega) (fun v m => ?_) (fun o e => ?_) s.heap fun v m => ?_
    · obtain ⟨ns, x⟩ := hv v m
      exact ⟨ns, x.keeps fun b o e _ => (keep b o e).2⟩
    · have e2 : h1.get? a' = some o := e
      rw [at_] at e2
      cases e2
      intro c
      exact absurd (Value.type.inj c) (by decide)
    · obtain ⟨ns, x⟩ := hv v m
      rw [intsOf_at x]
      exact (intsOf_at (x.keeps fun b o e _ => (keep b o e).2)).symm
  · obtain ⟨fs, pf, ef⟩ := perm_lift (fun e : Addr × List Int => Value.ref e.1) (o2.perm.trans (by rw [eits])) es rfl
    obtain ⟨ep, he'⟩ := PyProof.Rows.sortedAll_at s.heap its out.toArray
    have vf : Vals (fs.map fun e => V.ref e.1) out := by
      rw [← ef]
      have all : ∀ l : List (Addr × List Int), Vals (l.map fun e => V.ref e.1) (l.map fun e => Value.ref e.1) := by
        intro l
        induction l with
        | nil => exact .nil
        | cons e l ih => exact .cons rfl ih
      exact all fs
    have few : (fs.map fun e => V.ref e.1).length ≤ sizeLine := by
      rw [List.length_map, pf.length_eq]
      rw [List.length_map] at hz
      exact hz
    have srt : (fs.map (·.2)).Pairwise (fun x y => HT.lexLt y x = false) := by
      rw [← ef] at o1
      have o3 := List.pairwise_map.mp (show List.Pairwise (fun x y => HT.lexLt (intsOf s.heap y) (intsOf s.heap x) = false) _ from o1)
      rw [List.pairwise_map]
      refine List.Pairwise.imp_of_mem (fun {x y} mx my h => ?_) o3
      rw [intsOf_at (hint x (pf.mem_iff.mp mx)), intsOf_at (hint y (pf.mem_iff.mp my))] at h
      exact h
    exact ⟨.ref _, upd H (s.heap.objs.size + 1) (.lst (fs.map fun e => V.ref e.1)), I.laid (t' := s.toks) (fun _ _ => PyProof.Rows.sortedAll_old) (Nat.le_succ _) ⟨few, out, ep, vf, he'⟩, rfl, q fs _ pf srt (I.hok.fresh (Nat.le_succ _))⟩
end Rk
/-! (..) != (..), two tuples whose items are equal one by one (a dict may be among them). -/
namespace Rk
open PySem PySem.Spec PyProof.Rows L2
section
variable {prog : Program} {w : World}
open SeqAt AutoSeq1 MeetsSeq MeetsSeq2 MeetsSeq3 in
theorem ne_same_tuples (l b : Addr) (xs ys : Array Value) (n m : Nat) (dl db : Option Addr) (sl sb : Array (Option Value)) (len : xs.size = ys.size) :
    MeetsIn prog w (Builtin.«tuple.__ne__» ⟨[.ref l, .ref b], []⟩) (fun A R s => s.heap.get? l = some { cls := .type "tuple", dict := dl, data := .seq xs n, slots := sl } ∧ s.heap.get? b = some { cls := .type "tuple", dict := db, data := .seq ys m, slots := sb } ∧
      (∀ (j : Nat) (u v : Value), xs[j]? = some u → ys[j]? = some v → SeqAt.EqP prog w A.in1 s u v true) ∧ R (.ok (.ret (.bool false))) s) :=
  .of_wp fun A R s h => by
    obtain ⟨hp, gs, dn, tk, os⟩ := s; obtain ⟨gl, gb, eqs, fin⟩ := h
    have sub := AutoSeq1.sub_tuple_tuple
    wp_walk using wpAny_loadPart' gl, wpAny_loadPart' gb, wpAny_forIn_list _ (fun rest z t => z.1 = none ∧ t = ⟨hp, gs, dn, tk, os⟩ ∧ ∃ i, rest = (xs.toList.zip ys.toList).drop i) _
    case turn =>
      rintro ⟨u, v⟩ rest z t ⟨hz, rfl, i, cut⟩
      have at_ : (xs.toList.zip ys.toList)[i]? = some (u, v) := by rw [← List.head?_drop, ← cut]; rfl
      obtain ⟨hu, hv⟩ := List.getElem?_zip_eq_some.mp at_
      have rest_ : rest = (xs.toList.zip ys.toList).drop (i + 1) := by rw [← List.tail_drop, ← cut]; rfl
      refine wpAny_bind (eqs i u v (by simpa using hu) (by simpa using hv) _ _ ?_)
      wp_walk
      exact ⟨rfl, rfl, i + 1, rest_⟩
    case fin =>
      rintro ⟨z1, z2⟩ t ⟨hz, rfl, i, cut⟩
      simp only at hz
      subst hz
      wp_walk
      exact ⟨_, rfl, by simpa [Builtin.Tuple.tupleCompareSizes, bne, len] using fin⟩
    case h =>
      exact ⟨rfl, rfl, 0, rfl⟩
end
section
variable {X : Cx}
/-- t != u: the items equal, so it is False -/
def rNeSame (K : PySem.W.Frag) : R2 := fun x y H Q => ∃ a b xs ys n, x = .ref a ∧ y = .ref b ∧ SqT K H a xs ∧ SqT K H b ys ∧ n ≤ 60 ∧ Paired (EqV K H n) xs ys ∧ Q (.bl false) H
theorem op_ne_same (hu : X.A.units + 64 < cLine) : OpR X (compareOp .NotEq) (rNeSame X.K) := by
  intro pins s σ H x y v u Q I rx ry h
  obtain ⟨a, b, xs, ys, n, rfl, rfl, ha, hb, hn, hp, q⟩ := h
  obtain rfl : v = Value.ref a := rx
  obtain rfl : u = Value.ref b := ry
  obtain ⟨us, ra, ta, _⟩ := I.tuple ha
  obtain ⟨ws, rb, tb, _⟩ := I.tuple hb
  obtain ⟨⟨c1, d1, t1, s1⟩, g1, e1, n1, f1⟩ := id ta
  obtain ⟨⟨c2, d2, t2, s2⟩, g2, e2, n2, f2⟩ := id tb
  simp only at e1 f1 e2 f2
  subst e1 f1 e2 f2
  have len : us.toArray.size = ws.toArray.size := by rw [List.size_toArray, List.size_toArray, ← ra.length, ← rb.length]; exact Paired.length hp
  refine wpAny_richCompare_same_room (T := "tuple") (op := .NotEq) ⟨_, g1, rfl⟩ ⟨_, g2, rfl⟩ PySem.F.slot_tuple_ne (call_meetsIn PySem.F.slot_tuple_ne ⟨_, g1, rfl⟩ PySem.F.entry_tuple_ne (PySem.F.args_tuple_ne_2 _ _) (ne_same_tuples a b us.toArray ws.toArray n1 n2 d1 d2 s1 s2 len)
    ⟨g1, g2, fun j u' v' hu' hv' => ?_, show Value.bool false ≠ Value.notImplemented ∧ EP X pins σ Q (.bool false) s from ⟨(fun z => nomatch z), ⟨.bl false, H, I, rfl, q⟩⟩⟩) (by omega)
  have hj : j < us.length := by simpa using (Array.getElem?_eq_some_iff.mp hu').1
  have hk : j < ws.length := by simpa using (Array.getElem?_eq_some_iff.mp hv').1
  have q1 := items_run (P := X.prog) (w := X.w) (A := X.A.in1) (s := s) (fun x y v u f r1 r2 => eqV_run I n X.A.in1 (by show X.A.units + 1 + n < cLine; omega) x y v u f r1 r2) hp ra rb j hj hk
  have a1 : us[j] = u' := by have := (Array.getElem?_eq_some_iff.mp hu').2; simpa using this
  have a2 : ws[j] = v' := by have := (Array.getElem?_eq_some_iff.mp hv').2; simpa using this
  rw [a1, a2] at q1
  exact q1
end
end Rk
/-! Things that are never written again: locked for good; what is read of them. -/
namespace Rk
open PySem PySem.Spec PyProof.Rows L2
section
variable {X : Cx}
/-- behind e: the thing at d (the reading's choice) is locked for good -/
def tFz (t : TE) : TE := fun σ H Q => t σ H fun v Ha => ∃ d u, Ha d = some u ∧ Mut (some u) ∧ ∀ od, Q v (upd Ha d (.frz od u))
theorem pe_fz {e : Expr} {t : TE} (h : PE X e t) : PE X e (tFz t) := ⟨fun pins s σ H Q I q => thn (h.run pins s σ H _ I q) fun u sa ⟨v, Ha, Ia, r, d, o, at_, mu, q2⟩ =>
  let ⟨od, Ib⟩ := Ia.lock at_ mu
  ⟨v, _, Ib, r, q2 od⟩⟩
/-- ahead of a statement -/
def tFzS (t : TS) : TS := fun D σ H => ∃ d u, H d = some u ∧ Mut (some u) ∧ ∀ od, t D σ (upd H d (.frz od u))
theorem ps_fz {b : Stmt} {t : TS} (h : PS X b t) : PS X b (tFzS t) := ⟨fun pins s σ H D I ⟨d, o, at_, mu, q⟩ =>
  let ⟨od, Ib⟩ := I.lock at_ mu
  h.run pins s σ _ D Ib (q od)⟩
theorem frz_ins {pins : List (Addr × Obj)} {σ : L2.St} {H : Hp} {s : Shared} {a C dx : Addr} {fs : List (Str × V)} {o : Obj} (I : Inv X pins σ H s) (e : H a = some (.frz o (.ins C dx fs))) :
    ∃ mA, ObjM s.heap a dx C mA ∧ ∀ f, RelO (fs.lookup f) (mA f) := by
  obtain ⟨_, own, few, ne, ob, mA, n, r, _⟩ := (show ObjOk X.prog X.w H s.heap a (.frz o (.ins C dx fs)) from I.hok a _ e)
  exact ⟨mA, ⟨ob, n, ne⟩, r⟩
/-- e.f, e locked -/
def tAt (C : Addr) (f : Str) (te : TE) : TE := fun σ H Q => te σ H fun x Ha => ∃ a o dx fs v, x = .ref a ∧ Ha a = some (.frz o (.ins C dx fs)) ∧ fs.lookup f = some v ∧ Q v Ha
theorem pe_att {e : Expr} {f : Str} {C : Addr} {te : TE} {pos : Pos} (cl : Cls X.K C) (na : NoAttr X.K C f) (he : PE X e te) (base : attributeBase e f X.env (eval e X.env) = eval e X.env := by rfl) : PE X (.Attribute e f pos) (tAt C f te) := by
  refine ⟨fun pins s σ H Q I h => attr_of base (thn (he.run pins s σ H _ I h) fun u sa hu => ?_)⟩
  obtain ⟨x, Ha, Ia, rx, a, o, dx, fs, v, rfl, at_, l, q⟩ := hu
  obtain rfl : u = Value.ref a := rx
  obtain ⟨mA, ob, r⟩ := frz_ins Ia at_
  obtain ⟨w', hw, rw'⟩ := RelO.some_of (v := v) (o := mA f) (by rw [← l]; exact r f)
  exact get_map Ia.kIn ob (cl.get f) cl.hd na hw (handed_of rw') ⟨v, Ha, Ia.tok _, rw', q⟩
/-- o.f, o an instance that may be written: what the class must have is said ahead -/
def tFe (C : Addr) (f : Str) (te : TE) : TE := fun σ H Q => te σ H fun x Ha => ∃ a dx fs v, x = .ref a ∧ Ha a = some (.ins C dx fs) ∧ fs.lookup f = some v ∧ Q v Ha
theorem pe_fe {e : Expr} {f : Str} {C : Addr} {te : TE} {pos : Pos} (cl : Cls X.K C) (na : NoAttr X.K C f) (he : PE X e te) (base : attributeBase e f X.env (eval e X.env) = eval e X.env := by rfl) : PE X (.Attribute e f pos) (tFe C f te) := by
  refine ⟨fun pins s σ H Q I h => attr_of base (thn (he.run pins s σ H _ I h) fun u sa hu => ?_)⟩
  obtain ⟨x, Ha, Ia, rx, a, dx, fs, v, rfl, at_, l, q⟩ := hu
  obtain rfl : u = Value.ref a := rx
  exact getattr_ok Ia at_ cl na l fun w' sb Ib rw' => ⟨v, Ha, Ib, rw', q⟩
/-- o.f = e -/
def sFe (C : Addr) (f : Str) (to te : TE) : TS := fun D σ H => te σ H fun y Ha => to σ Ha fun x Hb => ∃ a dx fs, x = .ref a ∧ Hb a = some (.ins C dx fs) ∧ fs.length < 1000 ∧ D.nx σ (upd Hb a (.ins C dx (putF f y fs)))
theorem ps_fe {o e : Expr} {f : Str} {C : Addr} {to te : TE} {p pos : Pos} (cl : Cls X.K C) (na : NoAttr X.K C f) (ho : PE X o to) (he : PE X e te) (sw : swapsWith e (some (.Attribute o f p)) pos.line X.env = pure false := by rfl) :
    PS X (.Assign [.Attribute o f p] e pos) (sFe C f to te) := by
  refine ⟨fun pins s σ H D I h => plainObj_wpAny_Assign_Attribute (thn (he.run pins s σ H _ I h) fun u sa ⟨y, Ha, Ia, ry, q⟩ => thn (ho.run pins sa σ Ha _ Ia q) fun v sb hb => ?_) sw⟩
  obtain ⟨x, Hb, Ib, rx, a, dx, fs, rfl, at_, few, q⟩ := hb
  obtain rfl : v = Value.ref a := rx
  exact setattr_ok Ib at_ cl na few ry fun sc Ic => ⟨σ, _, Ic, q⟩
/-- o.f += e, whole numbers -/
def sFa (C : Addr) (f : Str) (to te : TE) : TS := fun D σ H => to σ H fun x Ha => ∃ a dx fs i, x = .ref a ∧ Ha a = some (.ins C dx fs) ∧ fs.lookup f = some (.int i) ∧ te σ Ha fun y Hb => ∃ j dx' fs', y = .int j ∧ Hb a = some (.ins C dx' fs') ∧ fs'.length < 1000 ∧
  D.nx σ (upd Hb a (.ins C dx' (putF f (.int (i + j)) fs')))
theorem ps_fa {o e : Expr} {f : Str} {C : Addr} {to te : TE} {p pos : Pos} (cl : Cls X.K C) (na : NoAttr X.K C f) (ho : PE X o to) (he : PE X e te) : PS X (.AugAssign (.Attribute o f p) .Add e pos) (sFa C f to te) := by
  refine ⟨fun pins s σ H D I h => wpAny_AugAssign_AttributeAny (thn (ho.run pins s σ H _ I h) fun v sa ha => ?_)⟩
  obtain ⟨x, Ha, Ia, rx, a, dx, fs, i, rfl, at_, l, q⟩ := ha
  obtain rfl : v = Value.ref a := rx
  refine getattr_ok Ia at_ cl na l fun u sb Ib ru => thn (he.run pins sb σ Ha _ Ib q) fun w' sc ⟨y, Hb, Ic, ry, j, dx', fs', ey, at', few, q2⟩ => ?_
  subst ey
  refine thn (in_add pins sc σ Hb (.int i) (.int j) u w' (fun z H' => z = .int (i + j) ∧ H' = Hb) Ic ru ry ⟨i, j, rfl, rfl, rfl, rfl⟩) fun w2 sd ⟨z, Hd, Id, rz, ez, eH⟩ => ?_
  subst ez eH
  exact setattr_ok Id at' cl na few rz fun se Ie => ⟨σ, _, Ie, q2⟩
/-- t[n], n written -/
def tTi (n : Nat) (te : TE) : TE := fun σ H Q => te σ H fun x Ha => ∃ a xs v, x = .ref a ∧ Ha a = some (.tup xs) ∧ xs[n]? = some v ∧ Q v Ha
theorem pe_ti {e : Expr} {te : TE} {n : Nat} {i : Int} {kd : Nat} {p pos : Pos} (he : PE X e te) (hn : i = (n : Int) := by rfl) : PE X (.Subscript e (.Constant (.int i) kd p) pos) (tTi n te) := by
  subst hn
  refine ⟨fun pins s σ H Q I h => Subscript_ (thn (he.run pins s σ H _ I h) fun v sa ⟨x, Ha, Ia, rx, a, xs, v', ex, at_, l, q⟩ =>
    thn (pe_int.run pins sa σ Ha (fun y Hb => y = V.int (n : Int) ∧ Hb = Ha) Ia ⟨rfl, rfl⟩) fun w sb ⟨y, Hb, Ib, ry, ey, eH⟩ => ?_)⟩
  subst ex ey eH
  exact ix_tup e _ pins sb σ Hb _ _ v w Q Ib rx ry ⟨a, xs, n, v', rfl, rfl, SqT.of at_, atI_nat l, q⟩ rfl
end
/-- xs + ys, lists that may be locked -/
def rCatL : R2 := fun x y H Q => ∃ a b xs ys, x = .ref a ∧ y = .ref b ∧ Rd H a (.lst xs) ∧ Rd H b (.lst ys) ∧ xs.length + ys.length ≤ sizeLine ∧ ∀ p, H p = none → Q (.ref p) (upd H p (.lst (xs ++ ys)))
theorem op_catL {X : Cx} : OpR X (binaryOp .Add) rCatL := by
  rintro pins s σ H x y v u Q I rx ry ⟨a, b, xs, ys, rfl, rfl, ha, hb, few, q⟩
  obtain rfl : v = Value.ref a := rx
  obtain rfl : u = Value.ref b := ry
  obtain ⟨za, us, na, ra, ga⟩ := ha.ok I.hok
  obtain ⟨zb, ws, nb, rb, gb⟩ := hb.ok I.hok
  have la := ra.length
  have lb := rb.length
  refine PySem.P.add_list ga gb ?_ (by rw [List.size_toArray, List.size_toArray]; omega)
  have e : us.toArray ++ ws.toArray = (us ++ ws).toArray := by simp
  rw [e]
  exact ⟨.ref _, _, I.lnew (t' := s.toks) (ra.append rb) (by rw [List.length_append]; omega), rfl, q _ I.fresh⟩
/-- list(d), keys ints or texts, d may be locked -/
def rKeysL : List V → Hp → VK → Prop := fun xs H Q => ∃ a kvs, xs = [.ref a] ∧ Rd H a (.dK kvs) ∧ ∀ p, H p = none → Q (.ref p) (upd H p (.lst (kvs.map fun kv => kV kv.1)))
theorem call_keysL {X : Cx} (calm : X.calm = true) : CallR X (.type "list") rKeysL := by
  rintro pins s σ H xs us Q I r ⟨a, kvs, rfl, rd, q⟩
  rw [Vals.ref1 r]
  obtain ⟨z, sys, vs, kv, dict⟩ := rd.ok I.hok
  obtain ⟨ep, at_⟩ := dict.dictAt
  have len : kvs.length = vs.length := Paired.length kv
  refine PySem.W.kdl_call (PySem.W.kdl_dict (knd := mixKind X.prog X.w) (kvs := vs) (ep := ep) sys) (I.ok.hd calm) at_ (by omega) fun h' tk acc c keep obj got => ?_
  refine ⟨.ref s.heap.objs.size, upd H s.heap.objs.size (.lst (kvs.map fun kv => kV kv.1)), I.laid keep (Nat.le_refl _) (show ObjOk X.prog X.w _ _ _ (.lst (kvs.map fun kv => kV kv.1)) from ⟨by rw [List.length_map]; exact z, acc.toList, c, vals_of_at ?_ fun j x u h1 h2 => ?_, by rw [Array.toArray_toList]; exact obj⟩), rfl, q _ I.fresh⟩
  · have e1 := got.1
    have e2 : acc.toList.length = acc.size := Array.length_toList
    rw [List.length_map]
    omega
  · obtain ⟨k, y, hk, is⟩ := got.2 j u (by rw [← Array.getElem?_toList]; exact h2)
    have keys : (kvs.map fun kv => kV kv.1) = (vs.map (·.1)).map kV := by rw [← KV.keys kv, List.map_map]; rfl
    rw [keys, List.getElem?_map, List.getElem?_map, hk] at h1
    cases h1
    exact keyIs_rel is
/-- items that are equal: the same flat value, the same object, dicts of the same flat pairs -/
def EqI (H : Hp) (x y : V) : Prop := (x = y ∧ flatB x = true) ∨ (∃ a, x = .ref a ∧ y = .ref a) ∨ ∃ a b ks, x = .ref a ∧ y = .ref b ∧ Rd H a (.dK ks) ∧ Rd H b (.dK ks) ∧ (∀ p ∈ ks, valV ks p.1 = some p.2 ∧ flatB p.2 = true)
theorem eqI_run {X : Cx} {pins : List (Addr × Obj)} {σ : L2.St} {H : Hp} {s : Shared} {A : Around} (I : Inv X pins σ H s) (hu : A.units + 1 < cLine) (x y : V) (v u : Value) (h : EqI H x y) (rx : RelV x v) (ry : RelV y u) : SeqAt.EqP X.prog X.w A s v u true := by
  rcases h with ⟨rfl, f⟩ | ⟨a, rfl, rfl⟩ | ⟨a, b, ks, rfl, rfl, ha, hb, all⟩
  · exact (eqAt_same rx ry f).eqP
  · cases (show v = Value.ref a from rx)
    cases (show u = Value.ref a from ry)
    exact (SeqAt.EqAt.same _).eqP
  · cases (show v = Value.ref a from rx)
    cases (show u = Value.ref b from ry)
    by_cases e : a = b
    · subst e
      exact (SeqAt.EqAt.same _).eqP
    · obtain ⟨_, sa, va, ra, da⟩ := ha.ok I.hok
      obtain ⟨_, sb, vb, rb, db⟩ := hb.ok I.hok
      refine SeqAt.eqP_refs e fun E Q q => PySem.W.rcP_dicts (knd := mixKind X.prog X.w) (r := true) sa sb da db (by omega) (fun _ => hits_run (F := fun x y => x = y ∧ flatB x = true) (fun x y v u f r1 r2 => ?_) rb ra fun p m => ⟨p.2, (all p m).1, rfl, (all p m).2⟩) E Q ?_
      · obtain ⟨rfl, f⟩ := f
        exact (eqAt_same r1 r2 f).eqP
      · have la := Paired.length ra
        have lb := Paired.length rb
        rw [show (va.length == vb.length && true) = true by rw [← la, ← lb]; simp]
        exact q
/-- t != u, the items equal -/
def rNeI (K : PySem.W.Frag) : R2 := fun x y H Q => ∃ a b xs ys, x = .ref a ∧ y = .ref b ∧ H a = some (.tup xs) ∧ H b = some (.tup ys) ∧ Paired (EqI H) xs ys ∧ Q (.bl false) H
theorem op_neI {X : Cx} (hu : X.A.units + 64 < cLine) : OpR X (compareOp .NotEq) (rNeI X.K) := by
  rintro pins s σ H x y v u Q I rx ry ⟨a, b, xs, ys, rfl, rfl, ha, hb, hp, q⟩
  obtain rfl : v = Value.ref a := rx
  obtain rfl : u = Value.ref b := ry
  obtain ⟨us, ra, ta, _⟩ := I.tuple (SqT.of ha)
  obtain ⟨ws, rb, tb, _⟩ := I.tuple (SqT.of hb)
  obtain ⟨⟨c1, d1, t1, s1⟩, g1, e1, n1, f1⟩ := id ta
  obtain ⟨⟨c2, d2, t2, s2⟩, g2, e2, n2, f2⟩ := id tb
  simp only at e1 f1 e2 f2
  subst e1 f1 e2 f2
  have len : us.toArray.size = ws.toArray.size := by rw [List.size_toArray, List.size_toArray, ← ra.length, ← rb.length]; exact Paired.length hp
  refine wpAny_richCompare_same_room (T := "tuple") (op := .NotEq) ⟨_, g1, rfl⟩ ⟨_, g2, rfl⟩ PySem.F.slot_tuple_ne (call_meetsIn PySem.F.slot_tuple_ne ⟨_, g1, rfl⟩ PySem.F.entry_tuple_ne (PySem.F.args_tuple_ne_2 _ _) (ne_same_tuples a b us.toArray ws.toArray n1 n2 d1 d2 s1 s2 len)
    ⟨g1, g2, fun j u' v' hu' hv' => ?_, show Value.bool false ≠ Value.notImplemented ∧ EP X pins σ Q (.bool false) s from ⟨(fun z => nomatch z), ⟨.bl false, H, I, rfl, q⟩⟩⟩) (by omega)
  have hj : j < us.length := by simpa using (Array.getElem?_eq_some_iff.mp hu').1
  have hk : j < ws.length := by simpa using (Array.getElem?_eq_some_iff.mp hv').1
  have q1 := items_run (P := X.prog) (w := X.w) (A := X.A.in1) (s := s) (fun x y v u f r1 r2 => eqI_run I (by show X.A.units + 1 + 1 < cLine; omega) x y v u f r1 r2) hp ra rb j hj hk
  have a1 : us[j] = u' := by have := (Array.getElem?_eq_some_iff.mp hu').2; simpa using this
  have a2 : ws[j] = v' := by have := (Array.getElem?_eq_some_iff.mp hv').2; simpa using this
  rw [a1, a2] at q1
  exact q1
end Rk
/-! a, b = t where an exception is handled too. -/
namespace Rk
open PySem PySem.Spec PyProof.Rows L2
section
variable {prog : Program} {w : World} {A : Around} {E : Value → Shared → Prop} {s : Shared}
theorem tuple_end_hot {it t x1 : Addr} {i : Nat} {items : Array Value} {Q : Option Value → Shared → Prop} (hot : HotX.HotAt A x1 s.heap) (ne : it ≠ x1) (at_ : s.heap.IsTupleIter it t i) (tup : s.heap.IsTuple t items) (past : items[i]? = none)
    (q : ∀ h', Heap.ExtBut it s.heap h' → Q none { s with heap := h' }) : wpAny (model prog w) A (pyNext (.ref it)) Q E s := by
  obtain ⟨handled, o1, vs1, g1, d1, c1⟩ := hot
  obtain ⟨oi, goi, ci, di⟩ := id at_
  obtain ⟨ot, got, _, nt, dt⟩ := tup
  unfold pyNext
  refine wpAny_bind (wpAny_attempt (wpAny_callSpecial?_slot (name := Str.ofString "__next__") at_.typeIs PySem.F.slot_tuple_iterator_next (wpAny_call_entry PySem.F.slot_tuple_iterator_next at_.typeIs PySem.F.entry_tuple_iterator_next ?_ (PySem.F.args_tuple_iterator_next_1 _))))
  show wpAny _ _ (field (.ref it) 0 >>= _) _ _ s
  refine wpAny_bind (wpAny_field goi di (x := .ref t) rfl ?_)
  show wpAny _ _ (if (Value.ref t == Value.none) = true then _ else _) _ _ s
  rw [if_neg (by simp)]
  show wpAny _ _ (field (.ref it) 1 >>= _) _ _ s
  refine wpAny_bind (wpAny_field goi di (x := .int i 0) rfl ?_)
  show wpAny _ _ (seqItems? (.ref t) >>= _) _ _ s
  refine wpAny_bind (wpAny_seqItems got dt ?_)
  simp only [Int.toNat_natCast, past]
  refine wpAny_bind (wpAny_rule (wpAny_bind (wpAny_setField goi di (by simp) ?_)))
  show wpAny _ _ (newExc (.type "StopIteration") [] >>= _) _ _ _
  simp only [newExc, newTuple]
  refine wpAny_bind (wpAny_bind (wpAny_newObj_type ?_ (by size_fits)))
  refine wpAny_bind (m := firstArgMember _ _) (wpAny_of_eq (a := Value.none) (by first | rfl | (simp only [firstArgMember]; rfl)) (wpAny_newObj_type ?_ (by size_fits)))
  have g2 : (s.heap.update it (Obj.mapFields (·.setIfInBounds 0 Value.none))).get? x1 = some o1 := by rw [Heap.get?_update_other _ _ ne]; exact g1
  refine HotX.raiseNew_hot ⟨handled, o1, vs1, Heap.get?_push_of_some _ (Heap.get?_push_of_some _ g2), d1, c1⟩ (Nat.ne_of_lt (Heap.lt_size (Heap.get?_push_of_some _ g2))) (Heap.get?_push_size _ rfl) rfl (by first | (simp; done) | (simp; omega) | (simp only [Array.size_append]; simp; omega)) ?_
  refine wpAny_bind (wpAny_isInstance (T := "StopIteration") (b := true) ⟨_, Heap.get?_update_self _ (Heap.get?_push_size _ rfl) rfl, rfl⟩ isSubtype_stop (wpAny_pure (q _ fun b o ne e => ?_)))
  have e2 : (s.heap.update it (Obj.mapFields (·.setIfInBounds 0 Value.none))).get? b = some o := by rw [Heap.get?_update_other _ _ (Ne.symm ne)]; exact e
  have e3 := Heap.get?_push_of_some (h := s.heap.update it (Obj.mapFields (·.setIfInBounds 0 Value.none))) { cls := .type "tuple", data := .seq ([] : List Value).toArray } e2
  rw [Heap.get?_update_other _ _ (Nat.ne_of_gt (Heap.lt_size e3))]
  exact Heap.get?_push_of_some _ e3
theorem unpack_hot {t x1 : Addr} {items : Array Value} {Q : List Value → Shared → Prop} (hot : HotX.HotAt A x1 s.heap) (tup : s.heap.IsTuple t items)
    (q : ∀ h', Heap.ExtBut s.heap.objs.size s.heap h' → Q items.toList { s with heap := h' }) : wpAny (model prog w) A (unpackItems (.ref t) items.size none) Q E s := by
  have off : t ≠ s.heap.objs.size := by obtain ⟨o, ho, _⟩ := tup; exact Nat.ne_of_lt (Heap.lt_size ho)
  obtain ⟨handled, o1, vs1, g1, d1, c1⟩ := hot
  have off1 : s.heap.objs.size ≠ x1 := Nat.ne_of_gt (Heap.lt_size g1)
  unfold unpackItems notIterableAtAll
  refine wpAny_bind (wpAny_bind (wpAny_specialOf tup.typeIs PySem.F.slot_tuple_iter.lookup (wpAny_pure ?_)))
  simp only [Bool.false_eq_true, if_false]
  refine wpAny_bind (wpAny_holding (wpAny_pyIter_tuple tup (wpAny_bind (wpAny_holding (wpAny_draw_tuple off items.size 0 _ _ ⟨_, Heap.get?_push_size _ rfl, rfl, rfl⟩ (tup.push _) (by omega) fun ha ia sa => ?_)))))
  have whole : List.take items.size (List.drop 0 items.toList) = items.toList := by rw [List.drop_zero]; exact List.take_of_length_le (by simp)
  rw [whole, if_neg (by simp)]
  have tupa : ha.IsTuple t items := (tup.push _).extBut sa.extBut off
  have g1a : ha.get? x1 = some o1 := (sa.2 x1 (Ne.symm off1)).trans (Heap.get?_push_of_some _ g1)
  refine wpAny_bind (wpAny_holding (tuple_end_hot ⟨handled, o1, vs1, g1a, d1, c1⟩ off1 ia tupa (by simp) fun hb eb => ?_))
  simp only [Option.isSome_none, Bool.false_eq_true, if_false]
  exact wpAny_pure (q hb fun b o ne e => eb b o ne (sa.extBut b o ne (Heap.get?_push_of_some _ e)))
end
section
variable {X : Cx}
theorem pg_tupB {es : List Expr} {k : Nat} {t : TGs} {n : Nat} {pos : Pos} (live : Live X) (h : PGs X es t) (hn : (assignEach es X.env).length = n := by rfl) (hst : (assignEach es X.env).findIdx? (·.1) = none := by rfl) : PG X (.Tuple es k pos) (gTup X.K n t) := by
  rcases live with calm | hot
  · exact pg_tup calm h hn hst
  · refine ⟨fun pins s σ H v u Q I r hw => ?_⟩
    obtain ⟨a, xs, rfl, hq, len, hw⟩ := hw
    obtain rfl : u = Value.ref a := r
    obtain ⟨its, rv, tup, _⟩ := I.tuple hq
    obtain ⟨x1, hotA⟩ := hot.at I
    have sz : (assignEach es X.env).length = its.toArray.size := by rw [hn, ← len, List.size_toArray]; exact rv.length
    rw [arm_assign_Tuple]
    refine wpAny_bind (wpAny_standAt ?_)
    unfold unpack
    rw [sz, hst]
    refine wpAny_bind (wpAny_holding (unpack_hot hotA tup fun h' ext => ?_))
    exact h.run pins _ σ H xs _ Q (I.kept (t' := s.toks) fun b o e => ext b o (Nat.ne_of_lt (Heap.lt_size e)) e) (by simpa using rv) hw
end
end Rk
/-! What stands in the heap for good, as data; what a call may change. -/
namespace Rk
open PySem PySem.Spec PyProof.Rows L2
/-! ### what a call keeps -/
structure Kp (L : List Addr) (H H' : Hp) : Prop where
  tup : ∀ b xs, H b = some (.tup xs) → H' b = some (.tup xs)
  frz : ∀ b o u, H b = some (.frz o u) → H' b = some (.frz o u)
  kp : ∀ b o, b ∉ L → H b = some o → H' b = some o
  dom : ∀ b, H' b = none → H b = none
theorem Kp.refl {L : List Addr} {H : Hp} : Kp L H H := ⟨fun _ _ e => e, fun _ _ _ e => e, fun _ _ _ e => e, fun _ e => e⟩
theorem Kp.trans {L : List Addr} {H Ha Hb : Hp} (x : Kp L H Ha) (y : Kp L Ha Hb) : Kp L H Hb :=
  ⟨fun b xs e => y.tup b xs (x.tup b xs e), fun b o u e => y.frz b o u (x.frz b o u e), fun b o n e => y.kp b o n (x.kp b o n e), fun b e => x.dom b (y.dom b e)⟩
/-- then a call that changes what L2 names: each in L, or new since H -/
theorem Kp.sub {L M : List Addr} {H Ha Hb : Hp} (x : Kp L H Ha) (y : Kp M Ha Hb) (h : ∀ a ∈ M, a ∈ L ∨ H a = none) : Kp L H Hb :=
  ⟨fun b xs e => y.tup b xs (x.tup b xs e), fun b o u e => y.frz b o u (x.frz b o u e), fun b o n e => y.kp b o (fun m => (h b m).elim n fun z => by rw [z] at e; cases e) (x.kp b o n e), fun b e => x.dom b (y.dom b e)⟩
theorem Kp.more {L M : List Addr} {H Ha : Hp} (x : Kp L H Ha) (h : ∀ a ∈ L, a ∈ M) : Kp M H Ha := ⟨x.tup, x.frz, fun b o n e => x.kp b o (fun m => n (h b m)) e, x.dom⟩
theorem Kp.then0 {L : List Addr} {H Ha Hb : Hp} (x : Kp L H Ha) (y : Kp [] Ha Hb) : Kp L H Hb := x.sub y fun _ m => nomatch m
/-- something laid at a place that was free at H -/
theorem Kp.own {L : List Addr} {H Ha : Hp} {p : Addr} {o : HO} (x : Kp L H Ha) (n : H p = none) : Kp L H (upd Ha p o) := by
  have ne : ∀ {b : Addr} {u : HO}, H b = some u → b ≠ p := fun {b u} e z => by rw [z, n] at e; cases e
  refine ⟨fun b xs e => ?_, fun b o u e => ?_, fun b o m e => ?_, fun b e => ?_⟩
  · rw [upd_ne (ne e)]; exact x.tup b xs e
  · rw [upd_ne (ne e)]; exact x.frz b o u e
  · rw [upd_ne (ne e)]; exact x.kp b o m e
  · by_cases z : b = p
    · rw [z]; exact n
    · rw [upd_ne z] at e; exact x.dom b e
theorem Kp.new {L : List Addr} {H Ha : Hp} {p : Addr} {o : HO} (x : Kp L H Ha) (n : Ha p = none) : Kp L H (upd Ha p o) := x.own (x.dom p n)
/-- something of L written -/
theorem Kp.wr {L : List Addr} {H Ha : Hp} {p : Addr} {o u : HO} (x : Kp L H Ha) (m : p ∈ L) (at_ : Ha p = some u) (mu : Mut (some u) := by exact True.intro) : Kp L H (upd Ha p o) := by
  refine ⟨fun b xs e => ?_, fun b o v e => ?_, fun b o' n e => ?_, fun b e => ?_⟩
  · have q := x.tup b xs e
    rw [upd_ne (fun z => by rw [z, at_] at q; cases q; exact mu)]; exact q
  · have q := x.frz b o v e
    rw [upd_ne (fun z => by rw [z, at_] at q; cases q; exact mu)]; exact q
  · rw [upd_ne (fun z : b = p => n (by rw [z]; exact m))]; exact x.kp b o' n e
  · by_cases z : b = p
    · rw [z, upd_same] at e; cases e
    · rw [upd_ne z] at e; exact x.dom b e
theorem Kp.same {H Ha : Hp} (x : Kp [] H Ha) : Same H Ha := fun b o e => x.kp b o (fun m => nomatch m) e
theorem Kp.free {L : List Addr} {H Ha : Hp} {p : Addr} (x : Kp L H Ha) (n : Ha p = none) : H p = none := x.dom p n
/-! ### data that stand for good -/
mutual
inductive Di (H : Hp) : V → PyData → Prop
  | non : Di H .non .none
  | bl (b : Bool) : Di H (.bl b) (.bool b)
  | int (i : Int) : Di H (.int i) (.int i)
  | str (x : Str) : Di H (.str x) (.str x)
  | lst {a : Addr} {o : Obj} {xs : List V} {ds : List PyData} : H a = some (.frz o (.lst xs)) → Dl H xs ds → Di H (.ref a) (.list ds)
  | tup {a : Addr} {xs : List V} {ds : List PyData} : H a = some (.tup xs) → Dl H xs ds → Di H (.ref a) (.tuple ds)
inductive Dl (H : Hp) : List V → List PyData → Prop
  | nil : Dl H [] []
  | cons {v : V} {vs : List V} {d : PyData} {ds : List PyData} : Di H v d → Dl H vs ds → Dl H (v :: vs) (d :: ds)
end
mutual
theorem Di.mono {L : List Addr} {H Ha : Hp} (k : Kp L H Ha) : ∀ {d : PyData} {v : V}, Di H v d → Di Ha v d
  | .none, _, h => by cases h; exact .non
  | .bool b, _, h => by cases h; exact .bl b
  | .int i, _, h => by cases h; exact .int i
  | .str x, _, h => by cases h; exact .str x
  | .list ds, _, h => by
    cases h with
    | lst e l => exact .lst (k.frz _ _ _ e) (Dl.mono k l)
  | .tuple ds, _, h => by
    cases h with
    | tup e l => exact .tup (k.tup _ _ e) (Dl.mono k l)
  | .dict _, _, h => by cases h
theorem Dl.mono {L : List Addr} {H Ha : Hp} (k : Kp L H Ha) : ∀ {ds : List PyData} {vs : List V}, Dl H vs ds → Dl Ha vs ds
  | [], _, h => by cases h; exact .nil
  | _ :: _, _, h => by
    cases h with
    | cons a b => exact .cons (Di.mono k a) (Dl.mono k b)
end
mutual
theorem Di.dp {K : PySem.W.Frag} {H : Hp} : ∀ {d : PyData} {v : V}, Di H v d → Dp K H v d
  | .none, _, h => by cases h; exact .non
  | .bool b, _, h => by cases h; exact .bl b
  | .int i, _, h => by cases h; exact .int i
  | .str x, _, h => by cases h; exact .str x
  | .list ds, _, h => by
    cases h with
    | lst e l => exact .lst (.inl (.inr ⟨_, e⟩)) (Dl.dp l)
  | .tuple ds, _, h => by
    cases h with
    | tup e l => exact .tup (SqT.of e) (Dl.dp l)
  | .dict _, _, h => by cases h
theorem Dl.dp {K : PySem.W.Frag} {H : Hp} : ∀ {ds : List PyData} {vs : List V}, Dl H vs ds → DpAll K H vs ds
  | [], _, h => by cases h; exact .nil
  | _ :: _, _, h => by
    cases h with
    | cons a b => exact .cons (Di.dp a) (Dl.dp b)
end
section
variable {H : Hp} {v : V}
theorem Di.inv_str {x : Str} (h : Di H v (.str x)) : v = .str x := by cases h; rfl
theorem Di.inv_int {i : Int} (h : Di H v (.int i)) : v = .int i := by cases h; rfl
theorem Di.inv_none (h : Di H v .none) : v = .non := by cases h; rfl
theorem Di.inv_tup {ds : List PyData} (h : Di H v (.tuple ds)) : ∃ a xs, v = .ref a ∧ H a = some (.tup xs) ∧ Dl H xs ds := by
  cases h with
  | tup e l => exact ⟨_, _, rfl, e, l⟩
theorem Di.inv_lst {ds : List PyData} (h : Di H v (.list ds)) : ∃ a o xs, v = .ref a ∧ H a = some (.frz o (.lst xs)) ∧ Dl H xs ds := by
  cases h with
  | lst e l => exact ⟨_, _, _, rfl, e, l⟩
theorem Dl.inv_nil {vs : List V} (h : Dl H vs []) : vs = [] := by cases h; rfl
theorem Dl.inv_cons {vs : List V} {d : PyData} {ds : List PyData} (h : Dl H vs (d :: ds)) : ∃ x xs, vs = x :: xs ∧ Di H x d ∧ Dl H xs ds := by
  cases h with
  | cons a b => exact ⟨_, _, rfl, a, b⟩
theorem Dl.length : ∀ {ds : List PyData} {vs : List V}, Dl H vs ds → vs.length = ds.length
  | [], _, h => by rw [h.inv_nil]; rfl
  | _ :: _, _, h => by
    obtain ⟨x, xs, rfl, _, t⟩ := h.inv_cons
    simp [Dl.length t]
theorem Dl.at : ∀ {ds : List PyData} {vs : List V} {i : Nat} {d : PyData}, Dl H vs ds → ds[i]? = some d → ∃ x, vs[i]? = some x ∧ Di H x d
  | [], _, _, _, _, e => by simp at e
  | _ :: _, _, 0, _, h, e => by
    obtain ⟨x, xs, rfl, q, _⟩ := h.inv_cons
    simp only [List.getElem?_cons_zero] at e ⊢
    cases e
    exact ⟨x, rfl, q⟩
  | _ :: _, _, i + 1, _, h, e => by
    obtain ⟨x, xs, rfl, _, t⟩ := h.inv_cons
    simp only [List.getElem?_cons_succ] at e ⊢
    exact Dl.at t e
theorem Dl.at' : ∀ {ds : List PyData} {vs : List V} {i : Nat} {x : V}, Dl H vs ds → vs[i]? = some x → ∃ d, ds[i]? = some d ∧ Di H x d
  | [], _, _, _, h, e => by rw [h.inv_nil] at e; simp at e
  | _ :: _, _, 0, _, h, e => by
    obtain ⟨x, xs, rfl, q, _⟩ := h.inv_cons
    simp only [List.getElem?_cons_zero] at e ⊢
    cases e
    exact ⟨_, rfl, q⟩
  | _ :: _, _, i + 1, _, h, e => by
    obtain ⟨x, xs, rfl, _, t⟩ := h.inv_cons
    simp only [List.getElem?_cons_succ] at e ⊢
    exact Dl.at' t e
theorem Dl.append : ∀ {ds es : List PyData} {vs us : List V}, Dl H vs ds → Dl H us es → Dl H (vs ++ us) (ds ++ es)
  | [], _, _, _, h, g => by rw [h.inv_nil]; exact g
  | _ :: _, _, _, _, h, g => by
    obtain ⟨x, xs, rfl, q, t⟩ := h.inv_cons
    exact .cons q (Dl.append t g)
theorem Dl.erase : ∀ {ds : List PyData} {vs : List V} (i : Nat), Dl H vs ds → Dl H (vs.eraseIdx i) (ds.eraseIdx i)
  | [], _, _, h => by rw [h.inv_nil]; exact .nil
  | _ :: _, _, 0, h => by obtain ⟨x, xs, rfl, _, t⟩ := h.inv_cons; exact t
  | _ :: _, _, i + 1, h => by obtain ⟨x, xs, rfl, q, t⟩ := h.inv_cons; exact .cons q (Dl.erase i t)
theorem Di.inv1 {a : PyData} (h : Di H v (.tuple [a])) : ∃ p x, v = .ref p ∧ H p = some (.tup [x]) ∧ Di H x a := by
  obtain ⟨p, xs, rfl, e, l⟩ := h.inv_tup
  obtain ⟨x, xs, rfl, q, l⟩ := l.inv_cons
  cases l.inv_nil
  exact ⟨p, x, rfl, e, q⟩
theorem Di.inv2 {a b : PyData} (h : Di H v (.tuple [a, b])) : ∃ p x y, v = .ref p ∧ H p = some (.tup [x, y]) ∧ Di H x a ∧ Di H y b := by
  obtain ⟨p, xs, rfl, e, l⟩ := h.inv_tup
  obtain ⟨x, xs, rfl, q, l⟩ := l.inv_cons
  obtain ⟨y, xs, rfl, r, l⟩ := l.inv_cons
  cases l.inv_nil
  exact ⟨p, x, y, rfl, e, q, r⟩
theorem Di.inv3 {a b c : PyData} (h : Di H v (.tuple [a, b, c])) : ∃ p x y z, v = .ref p ∧ H p = some (.tup [x, y, z]) ∧ Di H x a ∧ Di H y b ∧ Di H z c := by
  obtain ⟨p, xs, rfl, e, l⟩ := h.inv_tup
  obtain ⟨x, xs, rfl, q, l⟩ := l.inv_cons
  obtain ⟨y, xs, rfl, r, l⟩ := l.inv_cons
  obtain ⟨z, xs, rfl, t, l⟩ := l.inv_cons
  cases l.inv_nil
  exact ⟨p, x, y, z, rfl, e, q, r, t⟩
theorem Di.inv4 {a b c d : PyData} (h : Di H v (.tuple [a, b, c, d])) : ∃ p x y z u, v = .ref p ∧ H p = some (.tup [x, y, z, u]) ∧ Di H x a ∧ Di H y b ∧ Di H z c ∧ Di H u d := by
  obtain ⟨p, xs, rfl, e, l⟩ := h.inv_tup
  obtain ⟨x, xs, rfl, q, l⟩ := l.inv_cons
  obtain ⟨y, xs, rfl, r, l⟩ := l.inv_cons
  obtain ⟨z, xs, rfl, t, l⟩ := l.inv_cons
  obtain ⟨u, xs, rfl, w, l⟩ := l.inv_cons
  cases l.inv_nil
  exact ⟨p, x, y, z, u, rfl, e, q, r, t, w⟩
end
theorem Dl.ints {H : Hp} : ∀ (ns : List Int), Dl H (ns.map V.int) (ns.map PyData.int)
  | [] => .nil
  | n :: ns => .cons (.int n) (Dl.ints ns)
theorem Dl.inv_ints {H : Hp} : ∀ {ns : List Int} {vs : List V}, Dl H vs (ns.map PyData.int) → vs = ns.map V.int
  | [], _, h => h.inv_nil
  | n :: ns, _, h => by
    obtain ⟨x, xs, rfl, q, t⟩ := h.inv_cons
    rw [q.inv_int, Dl.inv_ints t]
    rfl
theorem Dl.inv_strs {H : Hp} : ∀ {ns : List Str} {vs : List V}, Dl H vs (ns.map PyData.str) → vs = ns.map V.str
  | [], _, h => h.inv_nil
  | n :: ns, _, h => by
    obtain ⟨x, xs, rfl, q, t⟩ := h.inv_cons
    rw [q.inv_str, Dl.inv_strs t]
    rfl
end Rk
/-! What the top has left, by names; each def with its names and its binding. -/
namespace Rk
open PySem PySem.Spec PyProof.Rows L2
structure Tx (K : PySem.W.Frag) (mg : Str → Option Value) : Prop where
  says : He.SaysD fa fn K ∧ exB K = true
  ns : ∃ h : Heap, K.In h ∧ h.Ns mainGlobals mg
section
variable {K : PySem.W.Frag} {mg : Str → Option Value}
theorem Tx.g_RetroactError (T : Tx K mg) : mg "RetroactError" = some (.ref (He.ga K "RetroactError")) := let ⟨_, a, b⟩ := T.ns; He.glo_ok a b (T.says.1.fact 0 (f := .glo "RetroactError"))
theorem Tx.g_Fault (T : Tx K mg) : mg "Fault" = some (.ref (He.ga K "Fault")) := let ⟨_, a, b⟩ := T.ns; He.glo_ok a b (T.says.1.fact 1 (f := .glo "Fault"))
theorem Tx.g_ImpossibleEvent (T : Tx K mg) : mg "ImpossibleEvent" = some (.ref (He.ga K "ImpossibleEvent")) := let ⟨_, a, b⟩ := T.ns; He.glo_ok a b (T.says.1.fact 2 (f := .glo "ImpossibleEvent"))
theorem Tx.g_InvalidMoment (T : Tx K mg) : mg "InvalidMoment" = some (.ref (He.ga K "InvalidMoment")) := let ⟨_, a, b⟩ := T.ns; He.glo_ok a b (T.says.1.fact 3 (f := .glo "InvalidMoment"))
theorem Tx.g_Outcome (T : Tx K mg) : mg "Outcome" = some (.ref (He.ga K "Outcome")) := let ⟨_, a, b⟩ := T.ns; He.glo_ok a b (T.says.1.fact 4 (f := .glo "Outcome"))
theorem Tx.g_Reckoner (T : Tx K mg) : mg "Reckoner" = some (.ref (He.ga K "Reckoner")) := let ⟨_, a, b⟩ := T.ns; He.glo_ok a b (T.says.1.fact 5 (f := .glo "Reckoner"))
theorem Tx.g_Run (T : Tx K mg) : mg "Run" = some (.ref (He.ga K "Run")) := let ⟨_, a, b⟩ := T.ns; He.glo_ok a b (T.says.1.fact 6 (f := .glo "Run"))
theorem Tx.g_Being (T : Tx K mg) : mg "Being" = some (.ref (He.ga K "Being")) := let ⟨_, a, b⟩ := T.ns; He.glo_ok a b (T.says.1.fact 7 (f := .glo "Being"))
theorem Tx.g_State (T : Tx K mg) : mg "State" = some (.ref (He.ga K "State")) := let ⟨_, a, b⟩ := T.ns; He.glo_ok a b (T.says.1.fact 8 (f := .glo "State"))
theorem Tx.g_Plain (T : Tx K mg) : mg "Plain" = some (.ref (He.ga K "Plain")) := let ⟨_, a, b⟩ := T.ns; He.glo_ok a b (T.says.1.fact 9 (f := .glo "Plain"))
theorem Tx.g_History (T : Tx K mg) : mg "History" = some (.ref (He.ga K "History")) := let ⟨_, a, b⟩ := T.ns; He.glo_ok a b (T.says.1.fact 10 (f := .glo "History"))
theorem Tx.g_Actor (T : Tx K mg) : mg "Actor" = some (.ref (He.ga K "Actor")) := let ⟨_, a, b⟩ := T.ns; He.glo_ok a b (T.says.1.fact 11 (f := .glo "Actor"))
theorem Tx.g_Program (T : Tx K mg) : mg "Program" = some (.ref (He.ga K "Program")) := let ⟨_, a, b⟩ := T.ns; He.glo_ok a b (T.says.1.fact 12 (f := .glo "Program"))
theorem Tx.g_is_value (T : Tx K mg) : mg "is_value" = some (.ref (He.ga K "is_value")) := let ⟨_, a, b⟩ := T.ns; He.glo_ok a b (T.says.1.fact 13 (f := .glo "is_value"))
theorem Tx.g__checked (T : Tx K mg) : mg "_checked" = some (.ref (He.ga K "_checked")) := let ⟨_, a, b⟩ := T.ns; He.glo_ok a b (T.says.1.fact 14 (f := .glo "_checked"))
theorem Tx.g__combined (T : Tx K mg) : mg "_combined" = some (.ref (He.ga K "_combined")) := let ⟨_, a, b⟩ := T.ns; He.glo_ok a b (T.says.1.fact 15 (f := .glo "_combined"))
theorem Tx.g_evaluate (T : Tx K mg) : mg "evaluate" = some (.ref (He.ga K "evaluate")) := let ⟨_, a, b⟩ := T.ns; He.glo_ok a b (T.says.1.fact 16 (f := .glo "evaluate"))
theorem Tx.g__names_set (T : Tx K mg) : mg "_names_set" = some (.ref (He.ga K "_names_set")) := let ⟨_, a, b⟩ := T.ns; He.glo_ok a b (T.says.1.fact 17 (f := .glo "_names_set"))
theorem Tx.g_locals_of (T : Tx K mg) : mg "locals_of" = some (.ref (He.ga K "locals_of")) := let ⟨_, a, b⟩ := T.ns; He.glo_ok a b (T.says.1.fact 18 (f := .glo "locals_of"))
theorem Tx.g_run_handler (T : Tx K mg) : mg "run_handler" = some (.ref (He.ga K "run_handler")) := let ⟨_, a, b⟩ := T.ns; He.glo_ok a b (T.says.1.fact 19 (f := .glo "run_handler"))
theorem Tx.g_begin_with (T : Tx K mg) : mg "begin_with" = some (.ref (He.ga K "begin_with")) := let ⟨_, a, b⟩ := T.ns; He.glo_ok a b (T.says.1.fact 20 (f := .glo "begin_with"))
theorem Tx.g_run_with (T : Tx K mg) : mg "run_with" = some (.ref (He.ga K "run_with")) := let ⟨_, a, b⟩ := T.ns; He.glo_ok a b (T.says.1.fact 21 (f := .glo "run_with"))
theorem Tx.g_being_parts (T : Tx K mg) : mg "being_parts" = some (.ref (He.ga K "being_parts")) := let ⟨_, a, b⟩ := T.ns; He.glo_ok a b (T.says.1.fact 22 (f := .glo "being_parts"))
theorem Tx.g_same_state (T : Tx K mg) : mg "same_state" = some (.ref (He.ga K "same_state")) := let ⟨_, a, b⟩ := T.ns; He.glo_ok a b (T.says.1.fact 23 (f := .glo "same_state"))
theorem Tx.g__actor_of (T : Tx K mg) : mg "_actor_of" = some (.ref (He.ga K "_actor_of")) := let ⟨_, a, b⟩ := T.ns; He.glo_ok a b (T.says.1.fact 24 (f := .glo "_actor_of"))
theorem Tx.g__handler_of (T : Tx K mg) : mg "_handler_of" = some (.ref (He.ga K "_handler_of")) := let ⟨_, a, b⟩ := T.ns; He.glo_ok a b (T.says.1.fact 25 (f := .glo "_handler_of"))
theorem Tx.g__born_with (T : Tx K mg) : mg "_born_with" = some (.ref (He.ga K "_born_with")) := let ⟨_, a, b⟩ := T.ns; He.glo_ok a b (T.says.1.fact 26 (f := .glo "_born_with"))
theorem Tx.g_born (T : Tx K mg) : mg "born" = some (.ref (He.ga K "born")) := let ⟨_, a, b⟩ := T.ns; He.glo_ok a b (T.says.1.fact 27 (f := .glo "born"))
theorem Tx.g_first_state (T : Tx K mg) : mg "first_state" = some (.ref (He.ga K "first_state")) := let ⟨_, a, b⟩ := T.ns; He.glo_ok a b (T.says.1.fact 28 (f := .glo "first_state"))
theorem Tx.g__is_input (T : Tx K mg) : mg "_is_input" = some (.ref (He.ga K "_is_input")) := let ⟨_, a, b⟩ := T.ns; He.glo_ok a b (T.says.1.fact 29 (f := .glo "_is_input"))
theorem Tx.g_is_possible (T : Tx K mg) : mg "is_possible" = some (.ref (He.ga K "is_possible")) := let ⟨_, a, b⟩ := T.ns; He.glo_ok a b (T.says.1.fact 30 (f := .glo "is_possible"))
theorem Tx.g__copied (T : Tx K mg) : mg "_copied" = some (.ref (He.ga K "_copied")) := let ⟨_, a, b⟩ := T.ns; He.glo_ok a b (T.says.1.fact 31 (f := .glo "_copied"))
theorem Tx.g__receiver (T : Tx K mg) : mg "_receiver" = some (.ref (He.ga K "_receiver")) := let ⟨_, a, b⟩ := T.ns; He.glo_ok a b (T.says.1.fact 32 (f := .glo "_receiver"))
theorem Tx.g__carry_out (T : Tx K mg) : mg "_carry_out" = some (.ref (He.ga K "_carry_out")) := let ⟨_, a, b⟩ := T.ns; He.glo_ok a b (T.says.1.fact 33 (f := .glo "_carry_out"))
theorem Tx.g__deliver (T : Tx K mg) : mg "_deliver" = some (.ref (He.ga K "_deliver")) := let ⟨_, a, b⟩ := T.ns; He.glo_ok a b (T.says.1.fact 34 (f := .glo "_deliver"))
theorem Tx.g_apply (T : Tx K mg) : mg "apply" = some (.ref (He.ga K "apply")) := let ⟨_, a, b⟩ := T.ns; He.glo_ok a b (T.says.1.fact 35 (f := .glo "apply"))
theorem Tx.g_apply_with (T : Tx K mg) : mg "apply_with" = some (.ref (He.ga K "apply_with")) := let ⟨_, a, b⟩ := T.ns; He.glo_ok a b (T.says.1.fact 36 (f := .glo "apply_with"))
theorem Tx.g_states_of (T : Tx K mg) : mg "states_of" = some (.ref (He.ga K "states_of")) := let ⟨_, a, b⟩ := T.ns; He.glo_ok a b (T.says.1.fact 37 (f := .glo "states_of"))
theorem Tx.g_actor_parts (T : Tx K mg) : mg "actor_parts" = some (.ref (He.ga K "actor_parts")) := let ⟨_, a, b⟩ := T.ns; He.glo_ok a b (T.says.1.fact 38 (f := .glo "actor_parts"))
theorem Tx.g_same_program (T : Tx K mg) : mg "same_program" = some (.ref (He.ga K "same_program")) := let ⟨_, a, b⟩ := T.ns; He.glo_ok a b (T.says.1.fact 39 (f := .glo "same_program"))
theorem Tx.g__law_state (T : Tx K mg) : mg "_law_state" = some (.ref (He.ga K "_law_state")) := let ⟨_, a, b⟩ := T.ns; He.glo_ok a b (T.says.1.fact 40 (f := .glo "_law_state"))
theorem Tx.g__law_draw (T : Tx K mg) : mg "_law_draw" = some (.ref (He.ga K "_law_draw")) := let ⟨_, a, b⟩ := T.ns; He.glo_ok a b (T.says.1.fact 41 (f := .glo "_law_draw"))
theorem Tx.g__law_exp (T : Tx K mg) : mg "_law_exp" = some (.ref (He.ga K "_law_exp")) := let ⟨_, a, b⟩ := T.ns; He.glo_ok a b (T.says.1.fact 42 (f := .glo "_law_exp"))
theorem Tx.g__law_number (T : Tx K mg) : mg "_law_number" = some (.ref (He.ga K "_law_number")) := let ⟨_, a, b⟩ := T.ns; He.glo_ok a b (T.says.1.fact 43 (f := .glo "_law_number"))
theorem Tx.g__law_statement (T : Tx K mg) : mg "_law_statement" = some (.ref (He.ga K "_law_statement")) := let ⟨_, a, b⟩ := T.ns; He.glo_ok a b (T.says.1.fact 44 (f := .glo "_law_statement"))
theorem Tx.g__law_body (T : Tx K mg) : mg "_law_body" = some (.ref (He.ga K "_law_body")) := let ⟨_, a, b⟩ := T.ns; He.glo_ok a b (T.says.1.fact 45 (f := .glo "_law_body"))
theorem Tx.g__law_begun (T : Tx K mg) : mg "_law_begun" = some (.ref (He.ga K "_law_begun")) := let ⟨_, a, b⟩ := T.ns; He.glo_ok a b (T.says.1.fact 46 (f := .glo "_law_begun"))
theorem Tx.g__law_box (T : Tx K mg) : mg "_law_box" = some (.ref (He.ga K "_law_box")) := let ⟨_, a, b⟩ := T.ns; He.glo_ok a b (T.says.1.fact 47 (f := .glo "_law_box"))
theorem Tx.g__law_program (T : Tx K mg) : mg "_law_program" = some (.ref (He.ga K "_law_program")) := let ⟨_, a, b⟩ := T.ns; He.glo_ok a b (T.says.1.fact 48 (f := .glo "_law_program"))
theorem Tx.g__law_event (T : Tx K mg) : mg "_law_event" = some (.ref (He.ga K "_law_event")) := let ⟨_, a, b⟩ := T.ns; He.glo_ok a b (T.says.1.fact 49 (f := .glo "_law_event"))
theorem Tx.g__law_recorded (T : Tx K mg) : mg "_law_recorded" = some (.ref (He.ga K "_law_recorded")) := let ⟨_, a, b⟩ := T.ns; He.glo_ok a b (T.says.1.fact 50 (f := .glo "_law_recorded"))
theorem Tx.g__law_is_no_moment (T : Tx K mg) : mg "_law_is_no_moment" = some (.ref (He.ga K "_law_is_no_moment")) := let ⟨_, a, b⟩ := T.ns; He.glo_ok a b (T.says.1.fact 51 (f := .glo "_law_is_no_moment"))
theorem Tx.g__law_is_right (T : Tx K mg) : mg "_law_is_right" = some (.ref (He.ga K "_law_is_right")) := let ⟨_, a, b⟩ := T.ns; He.glo_ok a b (T.says.1.fact 52 (f := .glo "_law_is_right"))
theorem Tx.g_law (T : Tx K mg) : mg "law" = some (.ref (He.ga K "law")) := let ⟨_, a, b⟩ := T.ns; He.glo_ok a b (T.says.1.fact 53 (f := .glo "law"))
theorem Tx.f_isinstance (T : Tx K mg) : mg "isinstance" = none := let ⟨_, a, b⟩ := T.ns; He.free_ok a b (T.says.1.fact 54 (f := .free "isinstance"))
theorem Tx.f_int (T : Tx K mg) : mg "int" = none := let ⟨_, a, b⟩ := T.ns; He.free_ok a b (T.says.1.fact 55 (f := .free "int"))
theorem Tx.f_bool (T : Tx K mg) : mg "bool" = none := let ⟨_, a, b⟩ := T.ns; He.free_ok a b (T.says.1.fact 56 (f := .free "bool"))
theorem Tx.f_len (T : Tx K mg) : mg "len" = none := let ⟨_, a, b⟩ := T.ns; He.free_ok a b (T.says.1.fact 57 (f := .free "len"))
theorem Tx.f_tuple (T : Tx K mg) : mg "tuple" = none := let ⟨_, a, b⟩ := T.ns; He.free_ok a b (T.says.1.fact 58 (f := .free "tuple"))
theorem Tx.f_list (T : Tx K mg) : mg "list" = none := let ⟨_, a, b⟩ := T.ns; He.free_ok a b (T.says.1.fact 59 (f := .free "list"))
theorem Tx.f_range (T : Tx K mg) : mg "range" = none := let ⟨_, a, b⟩ := T.ns; He.free_ok a b (T.says.1.fact 60 (f := .free "range"))
theorem Tx.f_sorted (T : Tx K mg) : mg "sorted" = none := let ⟨_, a, b⟩ := T.ns; He.free_ok a b (T.says.1.fact 61 (f := .free "sorted"))
theorem Tx.f_all (T : Tx K mg) : mg "all" = none := let ⟨_, a, b⟩ := T.ns; He.free_ok a b (T.says.1.fact 62 (f := .free "all"))
theorem Tx.f_max (T : Tx K mg) : mg "max" = none := let ⟨_, a, b⟩ := T.ns; He.free_ok a b (T.says.1.fact 63 (f := .free "max"))
theorem Tx.f_enumerate (T : Tx K mg) : mg "enumerate" = none := let ⟨_, a, b⟩ := T.ns; He.free_ok a b (T.says.1.fact 64 (f := .free "enumerate"))
theorem Tx.i_LEAST (T : Tx K mg) : ∃ t, mg "LEAST" = some (.int (-1000000000) t) := let ⟨_, a, b⟩ := T.ns; He.int_ok a b (T.says.1.fact 65 (f := .int "LEAST" (-1000000000)))
theorem Tx.i_GREATEST (T : Tx K mg) : ∃ t, mg "GREATEST" = some (.int (1000000000) t) := let ⟨_, a, b⟩ := T.ns; He.int_ok a b (T.says.1.fact 66 (f := .int "GREATEST" (1000000000)))
theorem Tx.i_MOST_TURNS (T : Tx K mg) : ∃ t, mg "MOST_TURNS" = some (.int (20) t) := let ⟨_, a, b⟩ := T.ns; He.int_ok a b (T.says.1.fact 67 (f := .int "MOST_TURNS" (20)))
theorem Tx.i_MOST_DEEDS (T : Tx K mg) : ∃ t, mg "MOST_DEEDS" = some (.int (60) t) := let ⟨_, a, b⟩ := T.ns; He.int_ok a b (T.says.1.fact 68 (f := .int "MOST_DEEDS" (60)))
theorem Tx.c_Outcome (T : Tx K mg) : Cls K (He.ga K "Outcome") := He.cls_ok (T.says.1.fact 69 (f := .cls "Outcome"))
theorem Tx.c_Reckoner (T : Tx K mg) : Cls K (He.ga K "Reckoner") := He.cls_ok (T.says.1.fact 70 (f := .cls "Reckoner"))
theorem Tx.c_Run (T : Tx K mg) : Cls K (He.ga K "Run") := He.cls_ok (T.says.1.fact 71 (f := .cls "Run"))
theorem Tx.c_Being (T : Tx K mg) : Cls K (He.ga K "Being") := He.cls_ok (T.says.1.fact 72 (f := .cls "Being"))
theorem Tx.c_State (T : Tx K mg) : Cls K (He.ga K "State") := He.cls_ok (T.says.1.fact 73 (f := .cls "State"))
theorem Tx.c_Plain (T : Tx K mg) : Cls K (He.ga K "Plain") := He.cls_ok (T.says.1.fact 74 (f := .cls "Plain"))
theorem Tx.c_History (T : Tx K mg) : Cls K (He.ga K "History") := He.cls_ok (T.says.1.fact 75 (f := .cls "History"))
theorem Tx.c_Actor (T : Tx K mg) : Cls K (He.ga K "Actor") := He.cls_ok (T.says.1.fact 76 (f := .cls "Actor"))
theorem Tx.c_Program (T : Tx K mg) : Cls K (He.ga K "Program") := He.cls_ok (T.says.1.fact 77 (f := .cls "Program"))
theorem Tx.n_Fault_reason (T : Tx K mg) : NoAttr K (He.ga K "Fault") "reason" := He.noat_ok (T.says.1.fact 78 (f := .noat "Fault" "reason"))
theorem Tx.n_ImpossibleEvent_event (T : Tx K mg) : NoAttr K (He.ga K "ImpossibleEvent") "event" := He.noat_ok (T.says.1.fact 79 (f := .noat "ImpossibleEvent" "event"))
theorem Tx.n_InvalidMoment_moment (T : Tx K mg) : NoAttr K (He.ga K "InvalidMoment") "moment" := He.noat_ok (T.says.1.fact 80 (f := .noat "InvalidMoment" "moment"))
theorem Tx.n_Outcome_kind (T : Tx K mg) : NoAttr K (He.ga K "Outcome") "kind" := He.noat_ok (T.says.1.fact 81 (f := .noat "Outcome" "kind"))
theorem Tx.n_Outcome_states (T : Tx K mg) : NoAttr K (He.ga K "Outcome") "states" := He.noat_ok (T.says.1.fact 82 (f := .noat "Outcome" "states"))
theorem Tx.n_Outcome_deeds (T : Tx K mg) : NoAttr K (He.ga K "Outcome") "deeds" := He.noat_ok (T.says.1.fact 83 (f := .noat "Outcome" "deeds"))
theorem Tx.n_Outcome_reason (T : Tx K mg) : NoAttr K (He.ga K "Outcome") "reason" := He.noat_ok (T.says.1.fact 84 (f := .noat "Outcome" "reason"))
theorem Tx.n_Run_names (T : Tx K mg) : NoAttr K (He.ga K "Run") "names" := He.noat_ok (T.says.1.fact 85 (f := .noat "Run" "names"))
theorem Tx.n_Run_spawned (T : Tx K mg) : NoAttr K (He.ga K "Run") "spawned" := He.noat_ok (T.says.1.fact 86 (f := .noat "Run" "spawned"))
theorem Tx.n_Run_reckoner (T : Tx K mg) : NoAttr K (He.ga K "Run") "reckoner" := He.noat_ok (T.says.1.fact 87 (f := .noat "Run" "reckoner"))
theorem Tx.n_Run_deeds (T : Tx K mg) : NoAttr K (He.ga K "Run") "deeds" := He.noat_ok (T.says.1.fact 88 (f := .noat "Run" "deeds"))
theorem Tx.n_Being_kind (T : Tx K mg) : NoAttr K (He.ga K "Being") "kind" := He.noat_ok (T.says.1.fact 89 (f := .noat "Being" "kind"))
theorem Tx.n_Being_states (T : Tx K mg) : NoAttr K (He.ga K "Being") "states" := He.noat_ok (T.says.1.fact 90 (f := .noat "Being" "states"))
theorem Tx.n_Being_spawned (T : Tx K mg) : NoAttr K (He.ga K "Being") "spawned" := He.noat_ok (T.says.1.fact 91 (f := .noat "Being" "spawned"))
theorem Tx.n_Being_sent (T : Tx K mg) : NoAttr K (He.ga K "Being") "sent" := He.noat_ok (T.says.1.fact 92 (f := .noat "Being" "sent"))
theorem Tx.n_Being_called (T : Tx K mg) : NoAttr K (He.ga K "Being") "called" := He.noat_ok (T.says.1.fact 93 (f := .noat "Being" "called"))
theorem Tx.n_Being_mode (T : Tx K mg) : NoAttr K (He.ga K "Being") "mode" := He.noat_ok (T.says.1.fact 94 (f := .noat "Being" "mode"))
theorem Tx.n_State_beings (T : Tx K mg) : NoAttr K (He.ga K "State") "beings" := He.noat_ok (T.says.1.fact 95 (f := .noat "State" "beings"))
theorem Tx.n_State_waiting (T : Tx K mg) : NoAttr K (He.ga K "State") "waiting" := He.noat_ok (T.says.1.fact 96 (f := .noat "State" "waiting"))
theorem Tx.n_State_pending (T : Tx K mg) : NoAttr K (He.ga K "State") "pending" := He.noat_ok (T.says.1.fact 97 (f := .noat "State" "pending"))
theorem Tx.n_State_gone (T : Tx K mg) : NoAttr K (He.ga K "State") "gone" := He.noat_ok (T.says.1.fact 98 (f := .noat "State" "gone"))
theorem Tx.n_History_program (T : Tx K mg) : NoAttr K (He.ga K "History") "program" := He.noat_ok (T.says.1.fact 99 (f := .noat "History" "program"))
theorem Tx.n_History__every (T : Tx K mg) : NoAttr K (He.ga K "History") "_every" := He.noat_ok (T.says.1.fact 100 (f := .noat "History" "_every"))
theorem Tx.n_History__events (T : Tx K mg) : NoAttr K (He.ga K "History") "_events" := He.noat_ok (T.says.1.fact 101 (f := .noat "History" "_events"))
theorem Tx.n_History__told (T : Tx K mg) : NoAttr K (He.ga K "History") "_told" := He.noat_ok (T.says.1.fact 102 (f := .noat "History" "_told"))
theorem Tx.n_History__kept (T : Tx K mg) : NoAttr K (He.ga K "History") "_kept" := He.noat_ok (T.says.1.fact 103 (f := .noat "History" "_kept"))
theorem Tx.n_History__last (T : Tx K mg) : NoAttr K (He.ga K "History") "_last" := He.noat_ok (T.says.1.fact 104 (f := .noat "History" "_last"))
theorem Tx.n_Actor_name (T : Tx K mg) : NoAttr K (He.ga K "Actor") "name" := He.noat_ok (T.says.1.fact 105 (f := .noat "Actor" "name"))
theorem Tx.n_Actor_parameters (T : Tx K mg) : NoAttr K (He.ga K "Actor") "parameters" := He.noat_ok (T.says.1.fact 106 (f := .noat "Actor" "parameters"))
theorem Tx.n_Actor_states (T : Tx K mg) : NoAttr K (He.ga K "Actor") "states" := He.noat_ok (T.says.1.fact 107 (f := .noat "Actor" "states"))
theorem Tx.n_Actor_handlers (T : Tx K mg) : NoAttr K (He.ga K "Actor") "handlers" := He.noat_ok (T.says.1.fact 108 (f := .noat "Actor" "handlers"))
theorem Tx.n_Program_effects (T : Tx K mg) : NoAttr K (He.ga K "Program") "effects" := He.noat_ok (T.says.1.fact 109 (f := .noat "Program" "effects"))
theorem Tx.n_Program_actors (T : Tx K mg) : NoAttr K (He.ga K "Program") "actors" := He.noat_ok (T.says.1.fact 110 (f := .noat "Program" "actors"))
theorem Tx.k_Outcome (T : Tx K mg) : Mk K (He.ga K "Outcome") (He.ma K (He.ga K "Outcome") "__init__") := He.mkr_ok (T.says.1.fact 111 (f := .mkr "Outcome"))
theorem Tx.m_Reckoner_reckon (T : Tx K mg) : Meth K (He.ga K "Reckoner") "reckon" (He.ma K (He.ga K "Reckoner") "reckon") := He.meth_ok (T.says.1.fact 112 (f := .meth "Reckoner" "reckon"))
theorem Tx.m_Reckoner_is_true (T : Tx K mg) : Meth K (He.ga K "Reckoner") "is_true" (He.ma K (He.ga K "Reckoner") "is_true") := He.meth_ok (T.says.1.fact 113 (f := .meth "Reckoner" "is_true"))
theorem Tx.m_Reckoner_whole (T : Tx K mg) : Meth K (He.ga K "Reckoner") "whole" (He.ma K (He.ga K "Reckoner") "whole") := He.meth_ok (T.says.1.fact 114 (f := .meth "Reckoner" "whole"))
theorem Tx.m_Reckoner_told (T : Tx K mg) : Meth K (He.ga K "Reckoner") "told" (He.ma K (He.ga K "Reckoner") "told") := He.meth_ok (T.says.1.fact 115 (f := .meth "Reckoner" "told"))
theorem Tx.m_Run_reckon (T : Tx K mg) : Meth K (He.ga K "Run") "reckon" (He.ma K (He.ga K "Run") "reckon") := He.meth_ok (T.says.1.fact 116 (f := .meth "Run" "reckon"))
theorem Tx.m_Run_reckon_all (T : Tx K mg) : Meth K (He.ga K "Run") "reckon_all" (He.ma K (He.ga K "Run") "reckon_all") := He.meth_ok (T.says.1.fact 117 (f := .meth "Run" "reckon_all"))
theorem Tx.m_Run_go_through (T : Tx K mg) : Meth K (He.ga K "Run") "go_through" (He.ma K (He.ga K "Run") "go_through") := He.meth_ok (T.says.1.fact 118 (f := .meth "Run" "go_through"))
theorem Tx.m_Run_do (T : Tx K mg) : Meth K (He.ga K "Run") "do" (He.ma K (He.ga K "Run") "do") := He.meth_ok (T.says.1.fact 119 (f := .meth "Run" "do"))
theorem Tx.m_Run_repeat (T : Tx K mg) : Meth K (He.ga K "Run") "repeat" (He.ma K (He.ga K "Run") "repeat") := He.meth_ok (T.says.1.fact 120 (f := .meth "Run" "repeat"))
theorem Tx.m_Run_do_deed (T : Tx K mg) : Meth K (He.ga K "Run") "do_deed" (He.ma K (He.ga K "Run") "do_deed") := He.meth_ok (T.says.1.fact 121 (f := .meth "Run" "do_deed"))
theorem Tx.k_Run (T : Tx K mg) : Mk K (He.ga K "Run") (He.ma K (He.ga K "Run") "__init__") := He.mkr_ok (T.says.1.fact 122 (f := .mkr "Run"))
theorem Tx.k_Being (T : Tx K mg) : Mk K (He.ga K "Being") (He.ma K (He.ga K "Being") "__init__") := He.mkr_ok (T.says.1.fact 123 (f := .mkr "Being"))
theorem Tx.k_State (T : Tx K mg) : Mk K (He.ga K "State") (He.ma K (He.ga K "State") "__init__") := He.mkr_ok (T.says.1.fact 124 (f := .mkr "State"))
theorem Tx.m_Plain_run (T : Tx K mg) : Meth K (He.ga K "Plain") "run" (He.ma K (He.ga K "Plain") "run") := He.meth_ok (T.says.1.fact 125 (f := .meth "Plain" "run"))
theorem Tx.m_Plain_begin (T : Tx K mg) : Meth K (He.ga K "Plain") "begin" (He.ma K (He.ga K "Plain") "begin") := He.meth_ok (T.says.1.fact 126 (f := .meth "Plain" "begin"))
theorem Tx.m_History_events (T : Tx K mg) : Meth K (He.ga K "History") "events" (He.ma K (He.ga K "History") "events") := He.meth_ok (T.says.1.fact 127 (f := .meth "History" "events"))
theorem Tx.m_History_told (T : Tx K mg) : Meth K (He.ga K "History") "told" (He.ma K (He.ga K "History") "told") := He.meth_ok (T.says.1.fact 128 (f := .meth "History" "told"))
theorem Tx.m_History_record (T : Tx K mg) : Meth K (He.ga K "History") "record" (He.ma K (He.ga K "History") "record") := He.meth_ok (T.says.1.fact 129 (f := .meth "History" "record"))
theorem Tx.m_History_state_at (T : Tx K mg) : Meth K (He.ga K "History") "state_at" (He.ma K (He.ga K "History") "state_at") := He.meth_ok (T.says.1.fact 130 (f := .meth "History" "state_at"))
theorem Tx.m_History_kept (T : Tx K mg) : Meth K (He.ga K "History") "kept" (He.ma K (He.ga K "History") "kept") := He.meth_ok (T.says.1.fact 131 (f := .meth "History" "kept"))
theorem Tx.m_History_forget (T : Tx K mg) : Meth K (He.ga K "History") "forget" (He.ma K (He.ga K "History") "forget") := He.meth_ok (T.says.1.fact 132 (f := .meth "History" "forget"))
theorem Tx.m_History_cut (T : Tx K mg) : Meth K (He.ga K "History") "cut" (He.ma K (He.ga K "History") "cut") := He.meth_ok (T.says.1.fact 133 (f := .meth "History" "cut"))
theorem Tx.k_History (T : Tx K mg) : Mk K (He.ga K "History") (He.ma K (He.ga K "History") "__init__") := He.mkr_ok (T.says.1.fact 134 (f := .mkr "History"))
theorem Tx.k_Actor (T : Tx K mg) : Mk K (He.ga K "Actor") (He.ma K (He.ga K "Actor") "__init__") := He.mkr_ok (T.says.1.fact 135 (f := .mkr "Actor"))
theorem Tx.k_Program (T : Tx K mg) : Mk K (He.ga K "Program") (He.ma K (He.ga K "Program") "__init__") := He.mkr_ok (T.says.1.fact 136 (f := .mkr "Program"))
theorem Tx.kp_RetroactError (T : Tx K mg) : PySem.W.keepIn K (.ref (He.ga K "RetroactError")) = true := He.keep_ok (T.says.1.fact 137 (f := .keep "RetroactError"))
theorem Tx.kp_Fault (T : Tx K mg) : PySem.W.keepIn K (.ref (He.ga K "Fault")) = true := He.keep_ok (T.says.1.fact 138 (f := .keep "Fault"))
theorem Tx.kp_ImpossibleEvent (T : Tx K mg) : PySem.W.keepIn K (.ref (He.ga K "ImpossibleEvent")) = true := He.keep_ok (T.says.1.fact 139 (f := .keep "ImpossibleEvent"))
theorem Tx.kp_InvalidMoment (T : Tx K mg) : PySem.W.keepIn K (.ref (He.ga K "InvalidMoment")) = true := He.keep_ok (T.says.1.fact 140 (f := .keep "InvalidMoment"))
theorem Tx.x_Fault_Fault (T : Tx K mg) : PySem.W.exmOne K (.ref (He.ga K "Fault")) (.ref (He.ga K "Fault")) = some true := He.exm_ok (T.says.1.fact 141 (f := .exm "Fault" "Fault" true))
theorem Tx.x_ImpossibleEvent_ImpossibleEvent (T : Tx K mg) : PySem.W.exmOne K (.ref (He.ga K "ImpossibleEvent")) (.ref (He.ga K "ImpossibleEvent")) = some true := He.exm_ok (T.says.1.fact 142 (f := .exm "ImpossibleEvent" "ImpossibleEvent" true))
theorem Tx.x_InvalidMoment_InvalidMoment (T : Tx K mg) : PySem.W.exmOne K (.ref (He.ga K "InvalidMoment")) (.ref (He.ga K "InvalidMoment")) = some true := He.exm_ok (T.says.1.fact 143 (f := .exm "InvalidMoment" "InvalidMoment" true))
noncomputable def Tx.fd_Fault_init (T : Tx K mg) : FuncData := Classical.choose (T.says.1.def_ 0 (d := dFault_init))
theorem Tx.D_Fault_init (T : Tx K mg) : FunD K "__init__" "Fault.__init__" (defArgs sFault_init) (defBody sFault_init) (defScope sFault_init) [] [] (He.ma K (He.ga K "Fault") "__init__") T.fd_Fault_init := Classical.choose_spec (T.says.1.def_ 0 (d := dFault_init))
/-- self 0 reason 1 -/
abbrev N_Fault_init : List Str := ["self", "reason"]
abbrev P_Fault_init : List Str := ["self", "reason"]
theorem sc_Fault_init : FnScope N_Fault_init P_Fault_init (defScope sFault_init) := ⟨rfl, rfl, rfl, by decide +kernel, rfl, by decide +kernel, by decide +kernel⟩
theorem Tx.b_Fault_init (T : Tx K mg) : Binds K T.fd_Fault_init P_Fault_init [] := T.D_Fault_init.bindsN fun _ _ _ _ _ _ us hl => match us, hl with | [_, _], _ => rfl
theorem Tx.p_Fault_init (T : Tx K mg) : PySem.W.keepIn K (.ref (He.ma K (He.ga K "Fault") "__init__")) = true := T.D_Fault_init.kp
noncomputable def Tx.fd_ImpossibleEvent_init (T : Tx K mg) : FuncData := Classical.choose (T.says.1.def_ 1 (d := dImpossibleEvent_init))
theorem Tx.D_ImpossibleEvent_init (T : Tx K mg) : FunD K "__init__" "ImpossibleEvent.__init__" (defArgs sImpossibleEvent_init) (defBody sImpossibleEvent_init) (defScope sImpossibleEvent_init) [] [] (He.ma K (He.ga K "ImpossibleEvent") "__init__") T.fd_ImpossibleEvent_init := Classical.choose_spec (T.says.1.def_ 1 (d := dImpossibleEvent_init))
/-- self 0 event 1 -/
abbrev N_ImpossibleEvent_init : List Str := ["self", "event"]
abbrev P_ImpossibleEvent_init : List Str := ["self", "event"]
theorem sc_ImpossibleEvent_init : FnScope N_ImpossibleEvent_init P_ImpossibleEvent_init (defScope sImpossibleEvent_init) := ⟨rfl, rfl, rfl, by decide +kernel, rfl, by decide +kernel, by decide +kernel⟩
theorem Tx.b_ImpossibleEvent_init (T : Tx K mg) : Binds K T.fd_ImpossibleEvent_init P_ImpossibleEvent_init [] := T.D_ImpossibleEvent_init.bindsN fun _ _ _ _ _ _ us hl => match us, hl with | [_, _], _ => rfl
theorem Tx.p_ImpossibleEvent_init (T : Tx K mg) : PySem.W.keepIn K (.ref (He.ma K (He.ga K "ImpossibleEvent") "__init__")) = true := T.D_ImpossibleEvent_init.kp
noncomputable def Tx.fd_InvalidMoment_init (T : Tx K mg) : FuncData := Classical.choose (T.says.1.def_ 2 (d := dInvalidMoment_init))
theorem Tx.D_InvalidMoment_init (T : Tx K mg) : FunD K "__init__" "InvalidMoment.__init__" (defArgs sInvalidMoment_init) (defBody sInvalidMoment_init) (defScope sInvalidMoment_init) [] [] (He.ma K (He.ga K "InvalidMoment") "__init__") T.fd_InvalidMoment_init := Classical.choose_spec (T.says.1.def_ 2 (d := dInvalidMoment_init))
/-- self 0 moment 1 -/
abbrev N_InvalidMoment_init : List Str := ["self", "moment"]
abbrev P_InvalidMoment_init : List Str := ["self", "moment"]
theorem sc_InvalidMoment_init : FnScope N_InvalidMoment_init P_InvalidMoment_init (defScope sInvalidMoment_init) := ⟨rfl, rfl, rfl, by decide +kernel, rfl, by decide +kernel, by decide +kernel⟩
theorem Tx.b_InvalidMoment_init (T : Tx K mg) : Binds K T.fd_InvalidMoment_init P_InvalidMoment_init [] := T.D_InvalidMoment_init.bindsN fun _ _ _ _ _ _ us hl => match us, hl with | [_, _], _ => rfl
theorem Tx.p_InvalidMoment_init (T : Tx K mg) : PySem.W.keepIn K (.ref (He.ma K (He.ga K "InvalidMoment") "__init__")) = true := T.D_InvalidMoment_init.kp
noncomputable def Tx.fd_is_value (T : Tx K mg) : FuncData := Classical.choose (T.says.1.def_ 3 (d := d_is_value))
theorem Tx.D_is_value (T : Tx K mg) : FunD K "is_value" "is_value" (defArgs s_is_value) (defBody s_is_value) (defScope s_is_value) [] [] (He.ga K "is_value") T.fd_is_value := Classical.choose_spec (T.says.1.def_ 3 (d := d_is_value))
/-- number 0 -/
abbrev N_is_value : List Str := ["number"]
abbrev P_is_value : List Str := ["number"]
theorem sc_is_value : FnScope N_is_value P_is_value (defScope s_is_value) := ⟨rfl, rfl, rfl, by decide +kernel, rfl, by decide +kernel, by decide +kernel⟩
theorem Tx.b_is_value (T : Tx K mg) : Binds K T.fd_is_value P_is_value [] := T.D_is_value.bindsN fun _ _ _ _ _ _ us hl => match us, hl with | [_], _ => rfl
theorem Tx.p_is_value (T : Tx K mg) : PySem.W.keepIn K (.ref (He.ga K "is_value")) = true := T.D_is_value.kp
noncomputable def Tx.fd_checked (T : Tx K mg) : FuncData := Classical.choose (T.says.1.def_ 4 (d := d_checked))
theorem Tx.D_checked (T : Tx K mg) : FunD K "_checked" "_checked" (defArgs s_checked) (defBody s_checked) (defScope s_checked) [] [] (He.ga K "_checked") T.fd_checked := Classical.choose_spec (T.says.1.def_ 4 (d := d_checked))
/-- number 0 -/
abbrev N_checked : List Str := ["number"]
abbrev P_checked : List Str := ["number"]
theorem sc_checked : FnScope N_checked P_checked (defScope s_checked) := ⟨rfl, rfl, rfl, by decide +kernel, rfl, by decide +kernel, by decide +kernel⟩
theorem Tx.b_checked (T : Tx K mg) : Binds K T.fd_checked P_checked [] := T.D_checked.bindsN fun _ _ _ _ _ _ us hl => match us, hl with | [_], _ => rfl
theorem Tx.p_checked (T : Tx K mg) : PySem.W.keepIn K (.ref (He.ga K "_checked")) = true := T.D_checked.kp
noncomputable def Tx.fd_combined (T : Tx K mg) : FuncData := Classical.choose (T.says.1.def_ 5 (d := d_combined))
theorem Tx.D_combined (T : Tx K mg) : FunD K "_combined" "_combined" (defArgs s_combined) (defBody s_combined) (defScope s_combined) [] [] (He.ga K "_combined") T.fd_combined := Classical.choose_spec (T.says.1.def_ 5 (d := d_combined))
/-- word 0 first 1 second 2 -/
abbrev N_combined : List Str := ["word", "first", "second"]
abbrev P_combined : List Str := ["word", "first", "second"]
theorem sc_combined : FnScope N_combined P_combined (defScope s_combined) := ⟨rfl, rfl, rfl, by decide +kernel, rfl, by decide +kernel, by decide +kernel⟩
theorem Tx.b_combined (T : Tx K mg) : Binds K T.fd_combined P_combined [] := T.D_combined.bindsN fun _ _ _ _ _ _ us hl => match us, hl with | [_, _, _], _ => rfl
theorem Tx.p_combined (T : Tx K mg) : PySem.W.keepIn K (.ref (He.ga K "_combined")) = true := T.D_combined.kp
noncomputable def Tx.fd_evaluate (T : Tx K mg) : FuncData := Classical.choose (T.says.1.def_ 6 (d := d_evaluate))
theorem Tx.D_evaluate (T : Tx K mg) : FunD K "evaluate" "evaluate" (defArgs s_evaluate) (defBody s_evaluate) (defScope s_evaluate) [] [] (He.ga K "evaluate") T.fd_evaluate := Classical.choose_spec (T.says.1.def_ 6 (d := d_evaluate))
/-- expression 0 names 1 word 2 first 3 second 4 -/
abbrev N_evaluate : List Str := ["expression", "names", "word", "first", "second"]
abbrev P_evaluate : List Str := ["expression", "names"]
theorem sc_evaluate : FnScope N_evaluate P_evaluate (defScope s_evaluate) := ⟨rfl, rfl, rfl, by decide +kernel, rfl, by decide +kernel, by decide +kernel⟩
theorem Tx.b_evaluate (T : Tx K mg) : Binds K T.fd_evaluate P_evaluate [] := T.D_evaluate.bindsN fun _ _ _ _ _ _ us hl => match us, hl with | [_, _], _ => rfl
theorem Tx.p_evaluate (T : Tx K mg) : PySem.W.keepIn K (.ref (He.ga K "evaluate")) = true := T.D_evaluate.kp
noncomputable def Tx.fd_Outcome_init (T : Tx K mg) : FuncData := Classical.choose (T.says.1.def_ 7 (d := dOutcome_init))
theorem Tx.D_Outcome_init (T : Tx K mg) : FunD K "__init__" "Outcome.__init__" (defArgs sOutcome_init) (defBody sOutcome_init) (defScope sOutcome_init) [.non] [] (He.ma K (He.ga K "Outcome") "__init__") T.fd_Outcome_init := Classical.choose_spec (T.says.1.def_ 7 (d := dOutcome_init))
/-- self 0 kind 1 states 2 deeds 3 reason 4 name 5 value 6 -/
abbrev N_Outcome_init : List Str := ["self", "kind", "states", "deeds", "reason", "name", "value"]
abbrev P_Outcome_init : List Str := ["self", "kind", "states", "deeds", "reason"]
theorem sc_Outcome_init : FnScope N_Outcome_init P_Outcome_init (defScope sOutcome_init) := ⟨rfl, rfl, rfl, by decide +kernel, rfl, by decide +kernel, by decide +kernel⟩
theorem Tx.p_Outcome_init (T : Tx K mg) : PySem.W.keepIn K (.ref (He.ma K (He.ga K "Outcome") "__init__")) = true := T.D_Outcome_init.kp
noncomputable def Tx.fd_names_set (T : Tx K mg) : FuncData := Classical.choose (T.says.1.def_ 8 (d := d_names_set))
theorem Tx.D_names_set (T : Tx K mg) : FunD K "_names_set" "_names_set" (defArgs s_names_set) (defBody s_names_set) (defScope s_names_set) [] [] (He.ga K "_names_set") T.fd_names_set := Classical.choose_spec (T.says.1.def_ 8 (d := d_names_set))
/-- body 0 found 1 statement 2 -/
abbrev N_names_set : List Str := ["body", "found", "statement"]
abbrev P_names_set : List Str := ["body"]
theorem sc_names_set : FnScope N_names_set P_names_set (defScope s_names_set) := ⟨rfl, rfl, rfl, by decide +kernel, rfl, by decide +kernel, by decide +kernel⟩
theorem Tx.b_names_set (T : Tx K mg) : Binds K T.fd_names_set P_names_set [] := T.D_names_set.bindsN fun _ _ _ _ _ _ us hl => match us, hl with | [_], _ => rfl
theorem Tx.p_names_set (T : Tx K mg) : PySem.W.keepIn K (.ref (He.ga K "_names_set")) = true := T.D_names_set.kp
noncomputable def Tx.fd_locals_of (T : Tx K mg) : FuncData := Classical.choose (T.says.1.def_ 9 (d := d_locals_of))
theorem Tx.D_locals_of (T : Tx K mg) : FunD K "locals_of" "locals_of" (defArgs s_locals_of) (defBody s_locals_of) (defScope s_locals_of) [] [] (He.ga K "locals_of") T.fd_locals_of := Classical.choose_spec (T.says.1.def_ 9 (d := d_locals_of))
/-- body 0 known 1 found 2 name 3 -/
abbrev N_locals_of : List Str := ["body", "known", "found", "name"]
abbrev P_locals_of : List Str := ["body", "known"]
theorem sc_locals_of : FnScope N_locals_of P_locals_of (defScope s_locals_of) := ⟨rfl, rfl, rfl, by decide +kernel, rfl, by decide +kernel, by decide +kernel⟩
theorem Tx.b_locals_of (T : Tx K mg) : Binds K T.fd_locals_of P_locals_of [] := T.D_locals_of.bindsN fun _ _ _ _ _ _ us hl => match us, hl with | [_, _], _ => rfl
theorem Tx.p_locals_of (T : Tx K mg) : PySem.W.keepIn K (.ref (He.ga K "locals_of")) = true := T.D_locals_of.kp
noncomputable def Tx.fd_Reckoner_reckon (T : Tx K mg) : FuncData := Classical.choose (T.says.1.def_ 10 (d := dReckoner_reckon))
theorem Tx.D_Reckoner_reckon (T : Tx K mg) : FunD K "reckon" "Reckoner.reckon" (defArgs sReckoner_reckon) (defBody sReckoner_reckon) (defScope sReckoner_reckon) [] [] (He.ma K (He.ga K "Reckoner") "reckon") T.fd_Reckoner_reckon := Classical.choose_spec (T.says.1.def_ 10 (d := dReckoner_reckon))
/-- self 0 expression 1 names 2 -/
abbrev N_Reckoner_reckon : List Str := ["self", "expression", "names"]
abbrev P_Reckoner_reckon : List Str := ["self", "expression", "names"]
theorem sc_Reckoner_reckon : FnScope N_Reckoner_reckon P_Reckoner_reckon (defScope sReckoner_reckon) := ⟨rfl, rfl, rfl, by decide +kernel, rfl, by decide +kernel, by decide +kernel⟩
theorem Tx.b_Reckoner_reckon (T : Tx K mg) : Binds K T.fd_Reckoner_reckon P_Reckoner_reckon [] := T.D_Reckoner_reckon.bindsN fun _ _ _ _ _ _ us hl => match us, hl with | [_, _, _], _ => rfl
theorem Tx.p_Reckoner_reckon (T : Tx K mg) : PySem.W.keepIn K (.ref (He.ma K (He.ga K "Reckoner") "reckon")) = true := T.D_Reckoner_reckon.kp
noncomputable def Tx.fd_Reckoner_is_true (T : Tx K mg) : FuncData := Classical.choose (T.says.1.def_ 11 (d := dReckoner_is_true))
theorem Tx.D_Reckoner_is_true (T : Tx K mg) : FunD K "is_true" "Reckoner.is_true" (defArgs sReckoner_is_true) (defBody sReckoner_is_true) (defScope sReckoner_is_true) [] [] (He.ma K (He.ga K "Reckoner") "is_true") T.fd_Reckoner_is_true := Classical.choose_spec (T.says.1.def_ 11 (d := dReckoner_is_true))
/-- self 0 number 1 -/
abbrev N_Reckoner_is_true : List Str := ["self", "number"]
abbrev P_Reckoner_is_true : List Str := ["self", "number"]
theorem sc_Reckoner_is_true : FnScope N_Reckoner_is_true P_Reckoner_is_true (defScope sReckoner_is_true) := ⟨rfl, rfl, rfl, by decide +kernel, rfl, by decide +kernel, by decide +kernel⟩
theorem Tx.b_Reckoner_is_true (T : Tx K mg) : Binds K T.fd_Reckoner_is_true P_Reckoner_is_true [] := T.D_Reckoner_is_true.bindsN fun _ _ _ _ _ _ us hl => match us, hl with | [_, _], _ => rfl
theorem Tx.p_Reckoner_is_true (T : Tx K mg) : PySem.W.keepIn K (.ref (He.ma K (He.ga K "Reckoner") "is_true")) = true := T.D_Reckoner_is_true.kp
noncomputable def Tx.fd_Reckoner_whole (T : Tx K mg) : FuncData := Classical.choose (T.says.1.def_ 12 (d := dReckoner_whole))
theorem Tx.D_Reckoner_whole (T : Tx K mg) : FunD K "whole" "Reckoner.whole" (defArgs sReckoner_whole) (defBody sReckoner_whole) (defScope sReckoner_whole) [] [] (He.ma K (He.ga K "Reckoner") "whole") T.fd_Reckoner_whole := Classical.choose_spec (T.says.1.def_ 12 (d := dReckoner_whole))
/-- self 0 number 1 -/
abbrev N_Reckoner_whole : List Str := ["self", "number"]
abbrev P_Reckoner_whole : List Str := ["self", "number"]
theorem sc_Reckoner_whole : FnScope N_Reckoner_whole P_Reckoner_whole (defScope sReckoner_whole) := ⟨rfl, rfl, rfl, by decide +kernel, rfl, by decide +kernel, by decide +kernel⟩
theorem Tx.b_Reckoner_whole (T : Tx K mg) : Binds K T.fd_Reckoner_whole P_Reckoner_whole [] := T.D_Reckoner_whole.bindsN fun _ _ _ _ _ _ us hl => match us, hl with | [_, _], _ => rfl
theorem Tx.p_Reckoner_whole (T : Tx K mg) : PySem.W.keepIn K (.ref (He.ma K (He.ga K "Reckoner") "whole")) = true := T.D_Reckoner_whole.kp
noncomputable def Tx.fd_Reckoner_told (T : Tx K mg) : FuncData := Classical.choose (T.says.1.def_ 13 (d := dReckoner_told))
theorem Tx.D_Reckoner_told (T : Tx K mg) : FunD K "told" "Reckoner.told" (defArgs sReckoner_told) (defBody sReckoner_told) (defScope sReckoner_told) [] [] (He.ma K (He.ga K "Reckoner") "told") T.fd_Reckoner_told := Classical.choose_spec (T.says.1.def_ 13 (d := dReckoner_told))
/-- self 0 integer 1 -/
abbrev N_Reckoner_told : List Str := ["self", "integer"]
abbrev P_Reckoner_told : List Str := ["self", "integer"]
theorem sc_Reckoner_told : FnScope N_Reckoner_told P_Reckoner_told (defScope sReckoner_told) := ⟨rfl, rfl, rfl, by decide +kernel, rfl, by decide +kernel, by decide +kernel⟩
theorem Tx.b_Reckoner_told (T : Tx K mg) : Binds K T.fd_Reckoner_told P_Reckoner_told [] := T.D_Reckoner_told.bindsN fun _ _ _ _ _ _ us hl => match us, hl with | [_, _], _ => rfl
theorem Tx.p_Reckoner_told (T : Tx K mg) : PySem.W.keepIn K (.ref (He.ma K (He.ga K "Reckoner") "told")) = true := T.D_Reckoner_told.kp
noncomputable def Tx.fd_Run_init (T : Tx K mg) : FuncData := Classical.choose (T.says.1.def_ 14 (d := dRun_init))
theorem Tx.D_Run_init (T : Tx K mg) : FunD K "__init__" "Run.__init__" (defArgs sRun_init) (defBody sRun_init) (defScope sRun_init) [] [] (He.ma K (He.ga K "Run") "__init__") T.fd_Run_init := Classical.choose_spec (T.says.1.def_ 14 (d := dRun_init))
/-- self 0 names 1 spawned 2 reckoner 3 -/
abbrev N_Run_init : List Str := ["self", "names", "spawned", "reckoner"]
abbrev P_Run_init : List Str := ["self", "names", "spawned", "reckoner"]
theorem sc_Run_init : FnScope N_Run_init P_Run_init (defScope sRun_init) := ⟨rfl, rfl, rfl, by decide +kernel, rfl, by decide +kernel, by decide +kernel⟩
theorem Tx.b_Run_init (T : Tx K mg) : Binds K T.fd_Run_init P_Run_init [] := T.D_Run_init.bindsN fun _ _ _ _ _ _ us hl => match us, hl with | [_, _, _, _], _ => rfl
theorem Tx.p_Run_init (T : Tx K mg) : PySem.W.keepIn K (.ref (He.ma K (He.ga K "Run") "__init__")) = true := T.D_Run_init.kp
noncomputable def Tx.fd_Run_reckon (T : Tx K mg) : FuncData := Classical.choose (T.says.1.def_ 15 (d := dRun_reckon))
theorem Tx.D_Run_reckon (T : Tx K mg) : FunD K "reckon" "Run.reckon" (defArgs sRun_reckon) (defBody sRun_reckon) (defScope sRun_reckon) [] [] (He.ma K (He.ga K "Run") "reckon") T.fd_Run_reckon := Classical.choose_spec (T.says.1.def_ 15 (d := dRun_reckon))
/-- self 0 expression 1 -/
abbrev N_Run_reckon : List Str := ["self", "expression"]
abbrev P_Run_reckon : List Str := ["self", "expression"]
theorem sc_Run_reckon : FnScope N_Run_reckon P_Run_reckon (defScope sRun_reckon) := ⟨rfl, rfl, rfl, by decide +kernel, rfl, by decide +kernel, by decide +kernel⟩
theorem Tx.b_Run_reckon (T : Tx K mg) : Binds K T.fd_Run_reckon P_Run_reckon [] := T.D_Run_reckon.bindsN fun _ _ _ _ _ _ us hl => match us, hl with | [_, _], _ => rfl
theorem Tx.p_Run_reckon (T : Tx K mg) : PySem.W.keepIn K (.ref (He.ma K (He.ga K "Run") "reckon")) = true := T.D_Run_reckon.kp
noncomputable def Tx.fd_Run_reckon_all (T : Tx K mg) : FuncData := Classical.choose (T.says.1.def_ 16 (d := dRun_reckon_all))
theorem Tx.D_Run_reckon_all (T : Tx K mg) : FunD K "reckon_all" "Run.reckon_all" (defArgs sRun_reckon_all) (defBody sRun_reckon_all) (defScope sRun_reckon_all) [] [] (He.ma K (He.ga K "Run") "reckon_all") T.fd_Run_reckon_all := Classical.choose_spec (T.says.1.def_ 16 (d := dRun_reckon_all))
/-- self 0 expressions 1 expression 2 -/
abbrev N_Run_reckon_all : List Str := ["self", "expressions", "expression"]
abbrev P_Run_reckon_all : List Str := ["self", "expressions"]
theorem sc_Run_reckon_all : FnScope N_Run_reckon_all P_Run_reckon_all (defScope sRun_reckon_all) := ⟨rfl, rfl, rfl, by decide +kernel, rfl, by decide +kernel, by decide +kernel⟩
theorem Tx.b_Run_reckon_all (T : Tx K mg) : Binds K T.fd_Run_reckon_all P_Run_reckon_all [] := T.D_Run_reckon_all.bindsN fun _ _ _ _ _ _ us hl => match us, hl with | [_, _], _ => rfl
theorem Tx.p_Run_reckon_all (T : Tx K mg) : PySem.W.keepIn K (.ref (He.ma K (He.ga K "Run") "reckon_all")) = true := T.D_Run_reckon_all.kp
noncomputable def Tx.fd_Run_go_through (T : Tx K mg) : FuncData := Classical.choose (T.says.1.def_ 17 (d := dRun_go_through))
theorem Tx.D_Run_go_through (T : Tx K mg) : FunD K "go_through" "Run.go_through" (defArgs sRun_go_through) (defBody sRun_go_through) (defScope sRun_go_through) [] [] (He.ma K (He.ga K "Run") "go_through") T.fd_Run_go_through := Classical.choose_spec (T.says.1.def_ 17 (d := dRun_go_through))
/-- self 0 body 1 statement 2 -/
abbrev N_Run_go_through : List Str := ["self", "body", "statement"]
abbrev P_Run_go_through : List Str := ["self", "body"]
theorem sc_Run_go_through : FnScope N_Run_go_through P_Run_go_through (defScope sRun_go_through) := ⟨rfl, rfl, rfl, by decide +kernel, rfl, by decide +kernel, by decide +kernel⟩
theorem Tx.b_Run_go_through (T : Tx K mg) : Binds K T.fd_Run_go_through P_Run_go_through [] := T.D_Run_go_through.bindsN fun _ _ _ _ _ _ us hl => match us, hl with | [_, _], _ => rfl
theorem Tx.p_Run_go_through (T : Tx K mg) : PySem.W.keepIn K (.ref (He.ma K (He.ga K "Run") "go_through")) = true := T.D_Run_go_through.kp
noncomputable def Tx.fd_Run_do (T : Tx K mg) : FuncData := Classical.choose (T.says.1.def_ 18 (d := dRun_do))
theorem Tx.D_Run_do (T : Tx K mg) : FunD K "do" "Run.do" (defArgs sRun_do) (defBody sRun_do) (defScope sRun_do) [] [] (He.ma K (He.ga K "Run") "do") T.fd_Run_do := Classical.choose_spec (T.says.1.def_ 18 (d := dRun_do))
/-- self 0 statement 1 word 2 -/
abbrev N_Run_do : List Str := ["self", "statement", "word"]
abbrev P_Run_do : List Str := ["self", "statement"]
theorem sc_Run_do : FnScope N_Run_do P_Run_do (defScope sRun_do) := ⟨rfl, rfl, rfl, by decide +kernel, rfl, by decide +kernel, by decide +kernel⟩
theorem Tx.b_Run_do (T : Tx K mg) : Binds K T.fd_Run_do P_Run_do [] := T.D_Run_do.bindsN fun _ _ _ _ _ _ us hl => match us, hl with | [_, _], _ => rfl
theorem Tx.p_Run_do (T : Tx K mg) : PySem.W.keepIn K (.ref (He.ma K (He.ga K "Run") "do")) = true := T.D_Run_do.kp
noncomputable def Tx.fd_Run_repeat (T : Tx K mg) : FuncData := Classical.choose (T.says.1.def_ 19 (d := dRun_repeat))
theorem Tx.D_Run_repeat (T : Tx K mg) : FunD K "repeat" "Run.repeat" (defArgs sRun_repeat) (defBody sRun_repeat) (defScope sRun_repeat) [] [] (He.ma K (He.ga K "Run") "repeat") T.fd_Run_repeat := Classical.choose_spec (T.says.1.def_ 19 (d := dRun_repeat))
/-- self 0 statement 1 turns 2 _ 3 -/
abbrev N_Run_repeat : List Str := ["self", "statement", "turns", "_"]
abbrev P_Run_repeat : List Str := ["self", "statement"]
theorem sc_Run_repeat : FnScope N_Run_repeat P_Run_repeat (defScope sRun_repeat) := ⟨rfl, rfl, rfl, by decide +kernel, rfl, by decide +kernel, by decide +kernel⟩
theorem Tx.b_Run_repeat (T : Tx K mg) : Binds K T.fd_Run_repeat P_Run_repeat [] := T.D_Run_repeat.bindsN fun _ _ _ _ _ _ us hl => match us, hl with | [_, _], _ => rfl
theorem Tx.p_Run_repeat (T : Tx K mg) : PySem.W.keepIn K (.ref (He.ma K (He.ga K "Run") "repeat")) = true := T.D_Run_repeat.kp
noncomputable def Tx.fd_Run_do_deed (T : Tx K mg) : FuncData := Classical.choose (T.says.1.def_ 20 (d := dRun_do_deed))
theorem Tx.D_Run_do_deed (T : Tx K mg) : FunD K "do_deed" "Run.do_deed" (defArgs sRun_do_deed) (defBody sRun_do_deed) (defScope sRun_do_deed) [] [] (He.ma K (He.ga K "Run") "do_deed") T.fd_Run_do_deed := Classical.choose_spec (T.says.1.def_ 20 (d := dRun_do_deed))
/-- self 0 word 1 statement 2 target 3 deed 4 -/
abbrev N_Run_do_deed : List Str := ["self", "word", "statement", "target", "deed"]
abbrev P_Run_do_deed : List Str := ["self", "word", "statement"]
theorem sc_Run_do_deed : FnScope N_Run_do_deed P_Run_do_deed (defScope sRun_do_deed) := ⟨rfl, rfl, rfl, by decide +kernel, rfl, by decide +kernel, by decide +kernel⟩
theorem Tx.b_Run_do_deed (T : Tx K mg) : Binds K T.fd_Run_do_deed P_Run_do_deed [] := T.D_Run_do_deed.bindsN fun _ _ _ _ _ _ us hl => match us, hl with | [_, _, _], _ => rfl
theorem Tx.p_Run_do_deed (T : Tx K mg) : PySem.W.keepIn K (.ref (He.ma K (He.ga K "Run") "do_deed")) = true := T.D_Run_do_deed.kp
noncomputable def Tx.fd_run_handler (T : Tx K mg) : FuncData := Classical.choose (T.says.1.def_ 21 (d := d_run_handler))
theorem Tx.D_run_handler (T : Tx K mg) : FunD K "run_handler" "run_handler" (defArgs s_run_handler) (defBody s_run_handler) (defScope s_run_handler) [] [] (He.ga K "run_handler") T.fd_run_handler := Classical.choose_spec (T.says.1.def_ 21 (d := d_run_handler))
/-- handler 0 states 1 spawned 2 arguments 3 -/
abbrev N_run_handler : List Str := ["handler", "states", "spawned", "arguments"]
abbrev P_run_handler : List Str := ["handler", "states", "spawned", "arguments"]
theorem sc_run_handler : FnScope N_run_handler P_run_handler (defScope s_run_handler) := ⟨rfl, rfl, rfl, by decide +kernel, rfl, by decide +kernel, by decide +kernel⟩
theorem Tx.b_run_handler (T : Tx K mg) : Binds K T.fd_run_handler P_run_handler [] := T.D_run_handler.bindsN fun _ _ _ _ _ _ us hl => match us, hl with | [_, _, _, _], _ => rfl
theorem Tx.p_run_handler (T : Tx K mg) : PySem.W.keepIn K (.ref (He.ga K "run_handler")) = true := T.D_run_handler.kp
noncomputable def Tx.fd_begin_with (T : Tx K mg) : FuncData := Classical.choose (T.says.1.def_ 22 (d := d_begin_with))
theorem Tx.D_begin_with (T : Tx K mg) : FunD K "begin_with" "begin_with" (defArgs s_begin_with) (defBody s_begin_with) (defScope s_begin_with) [] [] (He.ga K "begin_with") T.fd_begin_with := Classical.choose_spec (T.says.1.def_ 22 (d := d_begin_with))
/-- actor 0 arguments 1 reckoner 2 names 3 at 4 states 5 name 6 expression 7 -/
abbrev N_begin_with : List Str := ["actor", "arguments", "reckoner", "names", "at", "states", "name", "expression"]
abbrev P_begin_with : List Str := ["actor", "arguments", "reckoner"]
theorem sc_begin_with : FnScope N_begin_with P_begin_with (defScope s_begin_with) := ⟨rfl, rfl, rfl, by decide +kernel, rfl, by decide +kernel, by decide +kernel⟩
theorem Tx.b_begin_with (T : Tx K mg) : Binds K T.fd_begin_with P_begin_with [] := T.D_begin_with.bindsN fun _ _ _ _ _ _ us hl => match us, hl with | [_, _, _], _ => rfl
theorem Tx.p_begin_with (T : Tx K mg) : PySem.W.keepIn K (.ref (He.ga K "begin_with")) = true := T.D_begin_with.kp
noncomputable def Tx.fd_run_with (T : Tx K mg) : FuncData := Classical.choose (T.says.1.def_ 23 (d := d_run_with))
theorem Tx.D_run_with (T : Tx K mg) : FunD K "run_with" "run_with" (defArgs s_run_with) (defBody s_run_with) (defScope s_run_with) [] [] (He.ga K "run_with") T.fd_run_with := Classical.choose_spec (T.says.1.def_ 23 (d := d_run_with))
/-- handler 0 states 1 spawned 2 arguments 3 reckoner 4 _ 5 parameters 6 body 7 name 8 value 9 names 10 at 11 run 12 is_stopped 13 fault 14 after 15 kind 16 -/
abbrev N_run_with : List Str := ["handler", "states", "spawned", "arguments", "reckoner", "_", "parameters", "body", "name", "value", "names", "at", "run", "is_stopped", "fault", "after", "kind"]
abbrev P_run_with : List Str := ["handler", "states", "spawned", "arguments", "reckoner"]
theorem sc_run_with : FnScope N_run_with P_run_with (defScope s_run_with) := ⟨rfl, rfl, rfl, by decide +kernel, rfl, by decide +kernel, by decide +kernel⟩
theorem Tx.b_run_with (T : Tx K mg) : Binds K T.fd_run_with P_run_with [] := T.D_run_with.bindsN fun _ _ _ _ _ _ us hl => match us, hl with | [_, _, _, _, _], _ => rfl
theorem Tx.p_run_with (T : Tx K mg) : PySem.W.keepIn K (.ref (He.ga K "run_with")) = true := T.D_run_with.kp
noncomputable def Tx.fd_Being_init (T : Tx K mg) : FuncData := Classical.choose (T.says.1.def_ 24 (d := dBeing_init))
theorem Tx.D_Being_init (T : Tx K mg) : FunD K "__init__" "Being.__init__" (defArgs sBeing_init) (defBody sBeing_init) (defScope sBeing_init) [] [("spawned", .int 0), ("sent", .int 0), ("called", .int 0), ("mode", .str "on")] (He.ma K (He.ga K "Being") "__init__") T.fd_Being_init := Classical.choose_spec (T.says.1.def_ 24 (d := dBeing_init))
/-- self 0 kind 1 states 2 spawned 3 sent 4 called 5 mode 6 name 7 value 8 -/
abbrev N_Being_init : List Str := ["self", "kind", "states", "spawned", "sent", "called", "mode", "name", "value"]
abbrev P_Being_init : List Str := ["self", "kind", "states", "spawned", "sent", "called", "mode"]
theorem sc_Being_init : FnScope N_Being_init P_Being_init (defScope sBeing_init) := ⟨rfl, rfl, rfl, by decide +kernel, rfl, by decide +kernel, by decide +kernel⟩
theorem Tx.p_Being_init (T : Tx K mg) : PySem.W.keepIn K (.ref (He.ma K (He.ga K "Being") "__init__")) = true := T.D_Being_init.kp
noncomputable def Tx.fd_State_init (T : Tx K mg) : FuncData := Classical.choose (T.says.1.def_ 25 (d := dState_init))
theorem Tx.D_State_init (T : Tx K mg) : FunD K "__init__" "State.__init__" (defArgs sState_init) (defBody sState_init) (defScope sState_init) [] [] (He.ma K (He.ga K "State") "__init__") T.fd_State_init := Classical.choose_spec (T.says.1.def_ 25 (d := dState_init))
/-- self 0 beings 1 waiting 2 pending 3 gone 4 path 5 being 6 -/
abbrev N_State_init : List Str := ["self", "beings", "waiting", "pending", "gone", "path", "being"]
abbrev P_State_init : List Str := ["self", "beings", "waiting", "pending", "gone"]
theorem sc_State_init : FnScope N_State_init P_State_init (defScope sState_init) := ⟨rfl, rfl, rfl, by decide +kernel, rfl, by decide +kernel, by decide +kernel⟩
theorem Tx.b_State_init (T : Tx K mg) : Binds K T.fd_State_init P_State_init [] := T.D_State_init.bindsN fun _ _ _ _ _ _ us hl => match us, hl with | [_, _, _, _, _], _ => rfl
theorem Tx.p_State_init (T : Tx K mg) : PySem.W.keepIn K (.ref (He.ma K (He.ga K "State") "__init__")) = true := T.D_State_init.kp
noncomputable def Tx.fd_being_parts (T : Tx K mg) : FuncData := Classical.choose (T.says.1.def_ 26 (d := d_being_parts))
theorem Tx.D_being_parts (T : Tx K mg) : FunD K "being_parts" "being_parts" (defArgs s_being_parts) (defBody s_being_parts) (defScope s_being_parts) [] [] (He.ga K "being_parts") T.fd_being_parts := Classical.choose_spec (T.says.1.def_ 26 (d := d_being_parts))
/-- being 0 -/
abbrev N_being_parts : List Str := ["being"]
abbrev P_being_parts : List Str := ["being"]
theorem sc_being_parts : FnScope N_being_parts P_being_parts (defScope s_being_parts) := ⟨rfl, rfl, rfl, by decide +kernel, rfl, by decide +kernel, by decide +kernel⟩
theorem Tx.b_being_parts (T : Tx K mg) : Binds K T.fd_being_parts P_being_parts [] := T.D_being_parts.bindsN fun _ _ _ _ _ _ us hl => match us, hl with | [_], _ => rfl
theorem Tx.p_being_parts (T : Tx K mg) : PySem.W.keepIn K (.ref (He.ga K "being_parts")) = true := T.D_being_parts.kp
noncomputable def Tx.fd_same_state (T : Tx K mg) : FuncData := Classical.choose (T.says.1.def_ 27 (d := d_same_state))
theorem Tx.D_same_state (T : Tx K mg) : FunD K "same_state" "same_state" (defArgs s_same_state) (defBody s_same_state) (defScope s_same_state) [] [] (He.ga K "same_state") T.fd_same_state := Classical.choose_spec (T.says.1.def_ 27 (d := d_same_state))
/-- state 0 other 1 path 2 being 3 -/
abbrev N_same_state : List Str := ["state", "other", "path", "being"]
abbrev P_same_state : List Str := ["state", "other"]
theorem sc_same_state : FnScope N_same_state P_same_state (defScope s_same_state) := ⟨rfl, rfl, rfl, by decide +kernel, rfl, by decide +kernel, by decide +kernel⟩
theorem Tx.b_same_state (T : Tx K mg) : Binds K T.fd_same_state P_same_state [] := T.D_same_state.bindsN fun _ _ _ _ _ _ us hl => match us, hl with | [_, _], _ => rfl
theorem Tx.p_same_state (T : Tx K mg) : PySem.W.keepIn K (.ref (He.ga K "same_state")) = true := T.D_same_state.kp
noncomputable def Tx.fd_actor_of (T : Tx K mg) : FuncData := Classical.choose (T.says.1.def_ 28 (d := d_actor_of))
theorem Tx.D_actor_of (T : Tx K mg) : FunD K "_actor_of" "_actor_of" (defArgs s_actor_of) (defBody s_actor_of) (defScope s_actor_of) [] [] (He.ga K "_actor_of") T.fd_actor_of := Classical.choose_spec (T.says.1.def_ 28 (d := d_actor_of))
/-- program 0 kind 1 actor 2 -/
abbrev N_actor_of : List Str := ["program", "kind", "actor"]
abbrev P_actor_of : List Str := ["program", "kind"]
theorem sc_actor_of : FnScope N_actor_of P_actor_of (defScope s_actor_of) := ⟨rfl, rfl, rfl, by decide +kernel, rfl, by decide +kernel, by decide +kernel⟩
theorem Tx.b_actor_of (T : Tx K mg) : Binds K T.fd_actor_of P_actor_of [] := T.D_actor_of.bindsN fun _ _ _ _ _ _ us hl => match us, hl with | [_, _], _ => rfl
theorem Tx.p_actor_of (T : Tx K mg) : PySem.W.keepIn K (.ref (He.ga K "_actor_of")) = true := T.D_actor_of.kp
noncomputable def Tx.fd_handler_of (T : Tx K mg) : FuncData := Classical.choose (T.says.1.def_ 29 (d := d_handler_of))
theorem Tx.D_handler_of (T : Tx K mg) : FunD K "_handler_of" "_handler_of" (defArgs s_handler_of) (defBody s_handler_of) (defScope s_handler_of) [] [] (He.ga K "_handler_of") T.fd_handler_of := Classical.choose_spec (T.says.1.def_ 29 (d := d_handler_of))
/-- program 0 kind 1 message 2 count 3 handler 4 -/
abbrev N_handler_of : List Str := ["program", "kind", "message", "count", "handler"]
abbrev P_handler_of : List Str := ["program", "kind", "message", "count"]
theorem sc_handler_of : FnScope N_handler_of P_handler_of (defScope s_handler_of) := ⟨rfl, rfl, rfl, by decide +kernel, rfl, by decide +kernel, by decide +kernel⟩
theorem Tx.b_handler_of (T : Tx K mg) : Binds K T.fd_handler_of P_handler_of [] := T.D_handler_of.bindsN fun _ _ _ _ _ _ us hl => match us, hl with | [_, _, _, _], _ => rfl
theorem Tx.p_handler_of (T : Tx K mg) : PySem.W.keepIn K (.ref (He.ga K "_handler_of")) = true := T.D_handler_of.kp
noncomputable def Tx.fd_Plain_run (T : Tx K mg) : FuncData := Classical.choose (T.says.1.def_ 30 (d := dPlain_run))
theorem Tx.D_Plain_run (T : Tx K mg) : FunD K "run" "Plain.run" (defArgs sPlain_run) (defBody sPlain_run) (defScope sPlain_run) [] [] (He.ma K (He.ga K "Plain") "run") T.fd_Plain_run := Classical.choose_spec (T.says.1.def_ 30 (d := dPlain_run))
/-- self 0 handler 1 states 2 spawned 3 arguments 4 -/
abbrev N_Plain_run : List Str := ["self", "handler", "states", "spawned", "arguments"]
abbrev P_Plain_run : List Str := ["self", "handler", "states", "spawned", "arguments"]
theorem sc_Plain_run : FnScope N_Plain_run P_Plain_run (defScope sPlain_run) := ⟨rfl, rfl, rfl, by decide +kernel, rfl, by decide +kernel, by decide +kernel⟩
theorem Tx.b_Plain_run (T : Tx K mg) : Binds K T.fd_Plain_run P_Plain_run [] := T.D_Plain_run.bindsN fun _ _ _ _ _ _ us hl => match us, hl with | [_, _, _, _, _], _ => rfl
theorem Tx.p_Plain_run (T : Tx K mg) : PySem.W.keepIn K (.ref (He.ma K (He.ga K "Plain") "run")) = true := T.D_Plain_run.kp
noncomputable def Tx.fd_Plain_begin (T : Tx K mg) : FuncData := Classical.choose (T.says.1.def_ 31 (d := dPlain_begin))
theorem Tx.D_Plain_begin (T : Tx K mg) : FunD K "begin" "Plain.begin" (defArgs sPlain_begin) (defBody sPlain_begin) (defScope sPlain_begin) [] [] (He.ma K (He.ga K "Plain") "begin") T.fd_Plain_begin := Classical.choose_spec (T.says.1.def_ 31 (d := dPlain_begin))
/-- self 0 actor 1 arguments 2 -/
abbrev N_Plain_begin : List Str := ["self", "actor", "arguments"]
abbrev P_Plain_begin : List Str := ["self", "actor", "arguments"]
theorem sc_Plain_begin : FnScope N_Plain_begin P_Plain_begin (defScope sPlain_begin) := ⟨rfl, rfl, rfl, by decide +kernel, rfl, by decide +kernel, by decide +kernel⟩
theorem Tx.b_Plain_begin (T : Tx K mg) : Binds K T.fd_Plain_begin P_Plain_begin [] := T.D_Plain_begin.bindsN fun _ _ _ _ _ _ us hl => match us, hl with | [_, _, _], _ => rfl
theorem Tx.p_Plain_begin (T : Tx K mg) : PySem.W.keepIn K (.ref (He.ma K (He.ga K "Plain") "begin")) = true := T.D_Plain_begin.kp
noncomputable def Tx.fd_born_with (T : Tx K mg) : FuncData := Classical.choose (T.says.1.def_ 32 (d := d_born_with))
theorem Tx.D_born_with (T : Tx K mg) : FunD K "_born_with" "_born_with" (defArgs s_born_with) (defBody s_born_with) (defScope s_born_with) [] [] (He.ga K "_born_with") T.fd_born_with := Classical.choose_spec (T.says.1.def_ 32 (d := d_born_with))
/-- program 0 kind 1 arguments 2 engine 3 actor 4 states 5 name 6 _ 7 -/
abbrev N_born_with : List Str := ["program", "kind", "arguments", "engine", "actor", "states", "name", "_"]
abbrev P_born_with : List Str := ["program", "kind", "arguments", "engine"]
theorem sc_born_with : FnScope N_born_with P_born_with (defScope s_born_with) := ⟨rfl, rfl, rfl, by decide +kernel, rfl, by decide +kernel, by decide +kernel⟩
theorem Tx.b_born_with (T : Tx K mg) : Binds K T.fd_born_with P_born_with [] := T.D_born_with.bindsN fun _ _ _ _ _ _ us hl => match us, hl with | [_, _, _, _], _ => rfl
theorem Tx.p_born_with (T : Tx K mg) : PySem.W.keepIn K (.ref (He.ga K "_born_with")) = true := T.D_born_with.kp
noncomputable def Tx.fd_born (T : Tx K mg) : FuncData := Classical.choose (T.says.1.def_ 33 (d := d_born))
theorem Tx.D_born (T : Tx K mg) : FunD K "born" "born" (defArgs s_born) (defBody s_born) (defScope s_born) [] [] (He.ga K "born") T.fd_born := Classical.choose_spec (T.says.1.def_ 33 (d := d_born))
/-- program 0 kind 1 arguments 2 -/
abbrev N_born : List Str := ["program", "kind", "arguments"]
abbrev P_born : List Str := ["program", "kind", "arguments"]
theorem sc_born : FnScope N_born P_born (defScope s_born) := ⟨rfl, rfl, rfl, by decide +kernel, rfl, by decide +kernel, by decide +kernel⟩
theorem Tx.b_born (T : Tx K mg) : Binds K T.fd_born P_born [] := T.D_born.bindsN fun _ _ _ _ _ _ us hl => match us, hl with | [_, _, _], _ => rfl
theorem Tx.p_born (T : Tx K mg) : PySem.W.keepIn K (.ref (He.ga K "born")) = true := T.D_born.kp
noncomputable def Tx.fd_first_state (T : Tx K mg) : FuncData := Classical.choose (T.says.1.def_ 34 (d := d_first_state))
theorem Tx.D_first_state (T : Tx K mg) : FunD K "first_state" "first_state" (defArgs s_first_state) (defBody s_first_state) (defScope s_first_state) [] [] (He.ga K "first_state") T.fd_first_state := Classical.choose_spec (T.says.1.def_ 34 (d := d_first_state))
/-- program 0 -/
abbrev N_first_state : List Str := ["program"]
abbrev P_first_state : List Str := ["program"]
theorem sc_first_state : FnScope N_first_state P_first_state (defScope s_first_state) := ⟨rfl, rfl, rfl, by decide +kernel, rfl, by decide +kernel, by decide +kernel⟩
theorem Tx.b_first_state (T : Tx K mg) : Binds K T.fd_first_state P_first_state [] := T.D_first_state.bindsN fun _ _ _ _ _ _ us hl => match us, hl with | [_], _ => rfl
theorem Tx.p_first_state (T : Tx K mg) : PySem.W.keepIn K (.ref (He.ga K "first_state")) = true := T.D_first_state.kp
noncomputable def Tx.fd_is_input (T : Tx K mg) : FuncData := Classical.choose (T.says.1.def_ 35 (d := d_is_input))
theorem Tx.D_is_input (T : Tx K mg) : FunD K "_is_input" "_is_input" (defArgs s_is_input) (defBody s_is_input) (defScope s_is_input) [] [] (He.ga K "_is_input") T.fd_is_input := Classical.choose_spec (T.says.1.def_ 35 (d := d_is_input))
/-- program 0 state 1 path 2 message 3 arguments 4 argument 5 -/
abbrev N_is_input : List Str := ["program", "state", "path", "message", "arguments", "argument"]
abbrev P_is_input : List Str := ["program", "state", "path", "message", "arguments"]
theorem sc_is_input : FnScope N_is_input P_is_input (defScope s_is_input) := ⟨rfl, rfl, rfl, by decide +kernel, rfl, by decide +kernel, by decide +kernel⟩
theorem Tx.b_is_input (T : Tx K mg) : Binds K T.fd_is_input P_is_input [] := T.D_is_input.bindsN fun _ _ _ _ _ _ us hl => match us, hl with | [_, _, _, _, _], _ => rfl
theorem Tx.p_is_input (T : Tx K mg) : PySem.W.keepIn K (.ref (He.ga K "_is_input")) = true := T.D_is_input.kp
noncomputable def Tx.fd_is_possible (T : Tx K mg) : FuncData := Classical.choose (T.says.1.def_ 36 (d := d_is_possible))
theorem Tx.D_is_possible (T : Tx K mg) : FunD K "is_possible" "is_possible" (defArgs s_is_possible) (defBody s_is_possible) (defScope s_is_possible) [] [] (He.ga K "is_possible") T.fd_is_possible := Classical.choose_spec (T.says.1.def_ 36 (d := d_is_possible))
/-- program 0 state 1 event 2 -/
abbrev N_is_possible : List Str := ["program", "state", "event"]
abbrev P_is_possible : List Str := ["program", "state", "event"]
theorem sc_is_possible : FnScope N_is_possible P_is_possible (defScope s_is_possible) := ⟨rfl, rfl, rfl, by decide +kernel, rfl, by decide +kernel, by decide +kernel⟩
theorem Tx.b_is_possible (T : Tx K mg) : Binds K T.fd_is_possible P_is_possible [] := T.D_is_possible.bindsN fun _ _ _ _ _ _ us hl => match us, hl with | [_, _, _], _ => rfl
theorem Tx.p_is_possible (T : Tx K mg) : PySem.W.keepIn K (.ref (He.ga K "is_possible")) = true := T.D_is_possible.kp
noncomputable def Tx.fd_copied (T : Tx K mg) : FuncData := Classical.choose (T.says.1.def_ 37 (d := d_copied))
theorem Tx.D_copied (T : Tx K mg) : FunD K "_copied" "_copied" (defArgs s_copied) (defBody s_copied) (defScope s_copied) [] [] (He.ga K "_copied") T.fd_copied := Classical.choose_spec (T.says.1.def_ 37 (d := d_copied))
/-- being 0 kind 1 states 2 spawned 3 sent 4 called 5 mode 6 -/
abbrev N_copied : List Str := ["being", "kind", "states", "spawned", "sent", "called", "mode"]
abbrev P_copied : List Str := ["being"]
theorem sc_copied : FnScope N_copied P_copied (defScope s_copied) := ⟨rfl, rfl, rfl, by decide +kernel, rfl, by decide +kernel, by decide +kernel⟩
theorem Tx.b_copied (T : Tx K mg) : Binds K T.fd_copied P_copied [] := T.D_copied.bindsN fun _ _ _ _ _ _ us hl => match us, hl with | [_], _ => rfl
theorem Tx.p_copied (T : Tx K mg) : PySem.W.keepIn K (.ref (He.ga K "_copied")) = true := T.D_copied.kp
noncomputable def Tx.fd_receiver (T : Tx K mg) : FuncData := Classical.choose (T.says.1.def_ 38 (d := d_receiver))
theorem Tx.D_receiver (T : Tx K mg) : FunD K "_receiver" "_receiver" (defArgs s_receiver) (defBody s_receiver) (defScope s_receiver) [] [] (He.ga K "_receiver") T.fd_receiver := Classical.choose_spec (T.says.1.def_ 38 (d := d_receiver))
/-- path 0 target 1 -/
abbrev N_receiver : List Str := ["path", "target"]
abbrev P_receiver : List Str := ["path", "target"]
theorem sc_receiver : FnScope N_receiver P_receiver (defScope s_receiver) := ⟨rfl, rfl, rfl, by decide +kernel, rfl, by decide +kernel, by decide +kernel⟩
theorem Tx.b_receiver (T : Tx K mg) : Binds K T.fd_receiver P_receiver [] := T.D_receiver.bindsN fun _ _ _ _ _ _ us hl => match us, hl with | [_, _], _ => rfl
theorem Tx.p_receiver (T : Tx K mg) : PySem.W.keepIn K (.ref (He.ga K "_receiver")) = true := T.D_receiver.kp
noncomputable def Tx.fd_carry_out (T : Tx K mg) : FuncData := Classical.choose (T.says.1.def_ 39 (d := d_carry_out))
theorem Tx.D_carry_out (T : Tx K mg) : FunD K "_carry_out" "_carry_out" (defArgs s_carry_out) (defBody s_carry_out) (defScope s_carry_out) [] [] (He.ga K "_carry_out") T.fd_carry_out := Classical.choose_spec (T.says.1.def_ 39 (d := d_carry_out))
/-- program 0 state 1 path 2 deeds 3 engine 4 being 5 deed 6 receiver 7 key 8 -/
abbrev N_carry_out : List Str := ["program", "state", "path", "deeds", "engine", "being", "deed", "receiver", "key"]
abbrev P_carry_out : List Str := ["program", "state", "path", "deeds", "engine"]
theorem sc_carry_out : FnScope N_carry_out P_carry_out (defScope s_carry_out) := ⟨rfl, rfl, rfl, by decide +kernel, rfl, by decide +kernel, by decide +kernel⟩
theorem Tx.b_carry_out (T : Tx K mg) : Binds K T.fd_carry_out P_carry_out [] := T.D_carry_out.bindsN fun _ _ _ _ _ _ us hl => match us, hl with | [_, _, _, _, _], _ => rfl
theorem Tx.p_carry_out (T : Tx K mg) : PySem.W.keepIn K (.ref (He.ga K "_carry_out")) = true := T.D_carry_out.kp
noncomputable def Tx.fd_deliver (T : Tx K mg) : FuncData := Classical.choose (T.says.1.def_ 40 (d := d_deliver))
theorem Tx.D_deliver (T : Tx K mg) : FunD K "_deliver" "_deliver" (defArgs s_deliver) (defBody s_deliver) (defScope s_deliver) [] [] (He.ga K "_deliver") T.fd_deliver := Classical.choose_spec (T.says.1.def_ 40 (d := d_deliver))
/-- program 0 state 1 number 2 engine 3 path 4 message 5 arguments 6 _ 7 being 8 handler 9 outcome 10 -/
abbrev N_deliver : List Str := ["program", "state", "number", "engine", "path", "message", "arguments", "_", "being", "handler", "outcome"]
abbrev P_deliver : List Str := ["program", "state", "number", "engine"]
theorem sc_deliver : FnScope N_deliver P_deliver (defScope s_deliver) := ⟨rfl, rfl, rfl, by decide +kernel, rfl, by decide +kernel, by decide +kernel⟩
theorem Tx.b_deliver (T : Tx K mg) : Binds K T.fd_deliver P_deliver [] := T.D_deliver.bindsN fun _ _ _ _ _ _ us hl => match us, hl with | [_, _, _, _], _ => rfl
theorem Tx.p_deliver (T : Tx K mg) : PySem.W.keepIn K (.ref (He.ga K "_deliver")) = true := T.D_deliver.kp
noncomputable def Tx.fd_apply (T : Tx K mg) : FuncData := Classical.choose (T.says.1.def_ 41 (d := d_apply))
theorem Tx.D_apply (T : Tx K mg) : FunD K "apply" "apply" (defArgs s_apply) (defBody s_apply) (defScope s_apply) [] [] (He.ga K "apply") T.fd_apply := Classical.choose_spec (T.says.1.def_ 41 (d := d_apply))
/-- program 0 state 1 event 2 moment 3 -/
abbrev N_apply : List Str := ["program", "state", "event", "moment"]
abbrev P_apply : List Str := ["program", "state", "event", "moment"]
theorem sc_apply : FnScope N_apply P_apply (defScope s_apply) := ⟨rfl, rfl, rfl, by decide +kernel, rfl, by decide +kernel, by decide +kernel⟩
theorem Tx.b_apply (T : Tx K mg) : Binds K T.fd_apply P_apply [] := T.D_apply.bindsN fun _ _ _ _ _ _ us hl => match us, hl with | [_, _, _, _], _ => rfl
theorem Tx.p_apply (T : Tx K mg) : PySem.W.keepIn K (.ref (He.ga K "apply")) = true := T.D_apply.kp
noncomputable def Tx.fd_apply_with (T : Tx K mg) : FuncData := Classical.choose (T.says.1.def_ 42 (d := d_apply_with))
theorem Tx.D_apply_with (T : Tx K mg) : FunD K "apply_with" "apply_with" (defArgs s_apply_with) (defBody s_apply_with) (defScope s_apply_with) [] [] (He.ga K "apply_with") T.fd_apply_with := Classical.choose_spec (T.says.1.def_ 42 (d := d_apply_with))
/-- program 0 state 1 event 2 moment 3 engine 4 after 5 told 6 key 7 _ 8 message 9 -/
abbrev N_apply_with : List Str := ["program", "state", "event", "moment", "engine", "after", "told", "key", "_", "message"]
abbrev P_apply_with : List Str := ["program", "state", "event", "moment", "engine"]
theorem sc_apply_with : FnScope N_apply_with P_apply_with (defScope s_apply_with) := ⟨rfl, rfl, rfl, by decide +kernel, rfl, by decide +kernel, by decide +kernel⟩
theorem Tx.b_apply_with (T : Tx K mg) : Binds K T.fd_apply_with P_apply_with [] := T.D_apply_with.bindsN fun _ _ _ _ _ _ us hl => match us, hl with | [_, _, _, _, _], _ => rfl
theorem Tx.p_apply_with (T : Tx K mg) : PySem.W.keepIn K (.ref (He.ga K "apply_with")) = true := T.D_apply_with.kp
noncomputable def Tx.fd_History_init (T : Tx K mg) : FuncData := Classical.choose (T.says.1.def_ 43 (d := dHistory_init))
theorem Tx.D_History_init (T : Tx K mg) : FunD K "__init__" "History.__init__" (defArgs sHistory_init) (defBody sHistory_init) (defScope sHistory_init) [] [("every", .int 8)] (He.ma K (He.ga K "History") "__init__") T.fd_History_init := Classical.choose_spec (T.says.1.def_ 43 (d := dHistory_init))
/-- self 0 program 1 every 2 -/
abbrev N_History_init : List Str := ["self", "program", "every"]
abbrev P_History_init : List Str := ["self", "program", "every"]
theorem sc_History_init : FnScope N_History_init P_History_init (defScope sHistory_init) := ⟨rfl, rfl, rfl, by decide +kernel, rfl, by decide +kernel, by decide +kernel⟩
theorem Tx.p_History_init (T : Tx K mg) : PySem.W.keepIn K (.ref (He.ma K (He.ga K "History") "__init__")) = true := T.D_History_init.kp
noncomputable def Tx.fd_History_events (T : Tx K mg) : FuncData := Classical.choose (T.says.1.def_ 44 (d := dHistory_events))
theorem Tx.D_History_events (T : Tx K mg) : FunD K "events" "History.events" (defArgs sHistory_events) (defBody sHistory_events) (defScope sHistory_events) [] [] (He.ma K (He.ga K "History") "events") T.fd_History_events := Classical.choose_spec (T.says.1.def_ 44 (d := dHistory_events))
/-- self 0 -/
abbrev N_History_events : List Str := ["self"]
abbrev P_History_events : List Str := ["self"]
theorem sc_History_events : FnScope N_History_events P_History_events (defScope sHistory_events) := ⟨rfl, rfl, rfl, by decide +kernel, rfl, by decide +kernel, by decide +kernel⟩
theorem Tx.b_History_events (T : Tx K mg) : Binds K T.fd_History_events P_History_events [] := T.D_History_events.bindsN fun _ _ _ _ _ _ us hl => match us, hl with | [_], _ => rfl
theorem Tx.p_History_events (T : Tx K mg) : PySem.W.keepIn K (.ref (He.ma K (He.ga K "History") "events")) = true := T.D_History_events.kp
noncomputable def Tx.fd_History_told (T : Tx K mg) : FuncData := Classical.choose (T.says.1.def_ 45 (d := dHistory_told))
theorem Tx.D_History_told (T : Tx K mg) : FunD K "told" "History.told" (defArgs sHistory_told) (defBody sHistory_told) (defScope sHistory_told) [] [] (He.ma K (He.ga K "History") "told") T.fd_History_told := Classical.choose_spec (T.says.1.def_ 45 (d := dHistory_told))
/-- self 0 -/
abbrev N_History_told : List Str := ["self"]
abbrev P_History_told : List Str := ["self"]
theorem sc_History_told : FnScope N_History_told P_History_told (defScope sHistory_told) := ⟨rfl, rfl, rfl, by decide +kernel, rfl, by decide +kernel, by decide +kernel⟩
theorem Tx.b_History_told (T : Tx K mg) : Binds K T.fd_History_told P_History_told [] := T.D_History_told.bindsN fun _ _ _ _ _ _ us hl => match us, hl with | [_], _ => rfl
theorem Tx.p_History_told (T : Tx K mg) : PySem.W.keepIn K (.ref (He.ma K (He.ga K "History") "told")) = true := T.D_History_told.kp
noncomputable def Tx.fd_History_record (T : Tx K mg) : FuncData := Classical.choose (T.says.1.def_ 46 (d := dHistory_record))
theorem Tx.D_History_record (T : Tx K mg) : FunD K "record" "History.record" (defArgs sHistory_record) (defBody sHistory_record) (defScope sHistory_record) [] [] (He.ma K (He.ga K "History") "record") T.fd_History_record := Classical.choose_spec (T.says.1.def_ 46 (d := dHistory_record))
/-- self 0 event 1 moment 2 state 3 told 4 -/
abbrev N_History_record : List Str := ["self", "event", "moment", "state", "told"]
abbrev P_History_record : List Str := ["self", "event"]
theorem sc_History_record : FnScope N_History_record P_History_record (defScope sHistory_record) := ⟨rfl, rfl, rfl, by decide +kernel, rfl, by decide +kernel, by decide +kernel⟩
theorem Tx.b_History_record (T : Tx K mg) : Binds K T.fd_History_record P_History_record [] := T.D_History_record.bindsN fun _ _ _ _ _ _ us hl => match us, hl with | [_, _], _ => rfl
theorem Tx.p_History_record (T : Tx K mg) : PySem.W.keepIn K (.ref (He.ma K (He.ga K "History") "record")) = true := T.D_History_record.kp
noncomputable def Tx.fd_History_state_at (T : Tx K mg) : FuncData := Classical.choose (T.says.1.def_ 47 (d := dHistory_state_at))
theorem Tx.D_History_state_at (T : Tx K mg) : FunD K "state_at" "History.state_at" (defArgs sHistory_state_at) (defBody sHistory_state_at) (defScope sHistory_state_at) [] [] (He.ma K (He.ga K "History") "state_at") T.fd_History_state_at := Classical.choose_spec (T.says.1.def_ 47 (d := dHistory_state_at))
/-- self 0 moment 1 start 2 state 3 at 4 _ 5 kept 6 -/
abbrev N_History_state_at : List Str := ["self", "moment", "start", "state", "at", "_", "kept"]
abbrev P_History_state_at : List Str := ["self", "moment"]
theorem sc_History_state_at : FnScope N_History_state_at P_History_state_at (defScope sHistory_state_at) := ⟨rfl, rfl, rfl, by decide +kernel, rfl, by decide +kernel, by decide +kernel⟩
theorem Tx.b_History_state_at (T : Tx K mg) : Binds K T.fd_History_state_at P_History_state_at [] := T.D_History_state_at.bindsN fun _ _ _ _ _ _ us hl => match us, hl with | [_, _], _ => rfl
theorem Tx.p_History_state_at (T : Tx K mg) : PySem.W.keepIn K (.ref (He.ma K (He.ga K "History") "state_at")) = true := T.D_History_state_at.kp
noncomputable def Tx.fd_History_kept (T : Tx K mg) : FuncData := Classical.choose (T.says.1.def_ 48 (d := dHistory_kept))
theorem Tx.D_History_kept (T : Tx K mg) : FunD K "kept" "History.kept" (defArgs sHistory_kept) (defBody sHistory_kept) (defScope sHistory_kept) [] [] (He.ma K (He.ga K "History") "kept") T.fd_History_kept := Classical.choose_spec (T.says.1.def_ 48 (d := dHistory_kept))
/-- self 0 -/
abbrev N_History_kept : List Str := ["self"]
abbrev P_History_kept : List Str := ["self"]
theorem sc_History_kept : FnScope N_History_kept P_History_kept (defScope sHistory_kept) := ⟨rfl, rfl, rfl, by decide +kernel, rfl, by decide +kernel, by decide +kernel⟩
theorem Tx.b_History_kept (T : Tx K mg) : Binds K T.fd_History_kept P_History_kept [] := T.D_History_kept.bindsN fun _ _ _ _ _ _ us hl => match us, hl with | [_], _ => rfl
theorem Tx.p_History_kept (T : Tx K mg) : PySem.W.keepIn K (.ref (He.ma K (He.ga K "History") "kept")) = true := T.D_History_kept.kp
noncomputable def Tx.fd_History_forget (T : Tx K mg) : FuncData := Classical.choose (T.says.1.def_ 49 (d := dHistory_forget))
theorem Tx.D_History_forget (T : Tx K mg) : FunD K "forget" "History.forget" (defArgs sHistory_forget) (defBody sHistory_forget) (defScope sHistory_forget) [] [] (He.ma K (He.ga K "History") "forget") T.fd_History_forget := Classical.choose_spec (T.says.1.def_ 49 (d := dHistory_forget))
/-- self 0 moments 1 moment 2 -/
abbrev N_History_forget : List Str := ["self", "moments", "moment"]
abbrev P_History_forget : List Str := ["self", "moments"]
theorem sc_History_forget : FnScope N_History_forget P_History_forget (defScope sHistory_forget) := ⟨rfl, rfl, rfl, by decide +kernel, rfl, by decide +kernel, by decide +kernel⟩
theorem Tx.b_History_forget (T : Tx K mg) : Binds K T.fd_History_forget P_History_forget [] := T.D_History_forget.bindsN fun _ _ _ _ _ _ us hl => match us, hl with | [_, _], _ => rfl
theorem Tx.p_History_forget (T : Tx K mg) : PySem.W.keepIn K (.ref (He.ma K (He.ga K "History") "forget")) = true := T.D_History_forget.kp
noncomputable def Tx.fd_History_cut (T : Tx K mg) : FuncData := Classical.choose (T.says.1.def_ 50 (d := dHistory_cut))
theorem Tx.D_History_cut (T : Tx K mg) : FunD K "cut" "History.cut" (defArgs sHistory_cut) (defBody sHistory_cut) (defScope sHistory_cut) [] [] (He.ma K (He.ga K "History") "cut") T.fd_History_cut := Classical.choose_spec (T.says.1.def_ 50 (d := dHistory_cut))
/-- self 0 moment 1 history 2 event 3 -/
abbrev N_History_cut : List Str := ["self", "moment", "history", "event"]
abbrev P_History_cut : List Str := ["self", "moment"]
theorem sc_History_cut : FnScope N_History_cut P_History_cut (defScope sHistory_cut) := ⟨rfl, rfl, rfl, by decide +kernel, rfl, by decide +kernel, by decide +kernel⟩
theorem Tx.b_History_cut (T : Tx K mg) : Binds K T.fd_History_cut P_History_cut [] := T.D_History_cut.bindsN fun _ _ _ _ _ _ us hl => match us, hl with | [_, _], _ => rfl
theorem Tx.p_History_cut (T : Tx K mg) : PySem.W.keepIn K (.ref (He.ma K (He.ga K "History") "cut")) = true := T.D_History_cut.kp
noncomputable def Tx.fd_states_of (T : Tx K mg) : FuncData := Classical.choose (T.says.1.def_ 51 (d := d_states_of))
theorem Tx.D_states_of (T : Tx K mg) : FunD K "states_of" "states_of" (defArgs s_states_of) (defBody s_states_of) (defScope s_states_of) [] [] (He.ga K "states_of") T.fd_states_of := Classical.choose_spec (T.says.1.def_ 51 (d := d_states_of))
/-- program 0 events 1 states 2 moment 3 event 4 state 5 _ 6 -/
abbrev N_states_of : List Str := ["program", "events", "states", "moment", "event", "state", "_"]
abbrev P_states_of : List Str := ["program", "events"]
theorem sc_states_of : FnScope N_states_of P_states_of (defScope s_states_of) := ⟨rfl, rfl, rfl, by decide +kernel, rfl, by decide +kernel, by decide +kernel⟩
theorem Tx.b_states_of (T : Tx K mg) : Binds K T.fd_states_of P_states_of [] := T.D_states_of.bindsN fun _ _ _ _ _ _ us hl => match us, hl with | [_, _], _ => rfl
theorem Tx.p_states_of (T : Tx K mg) : PySem.W.keepIn K (.ref (He.ga K "states_of")) = true := T.D_states_of.kp
noncomputable def Tx.fd_Actor_init (T : Tx K mg) : FuncData := Classical.choose (T.says.1.def_ 52 (d := dActor_init))
theorem Tx.D_Actor_init (T : Tx K mg) : FunD K "__init__" "Actor.__init__" (defArgs sActor_init) (defBody sActor_init) (defScope sActor_init) [] [] (He.ma K (He.ga K "Actor") "__init__") T.fd_Actor_init := Classical.choose_spec (T.says.1.def_ 52 (d := dActor_init))
/-- self 0 name 1 parameters 2 states 3 handlers 4 -/
abbrev N_Actor_init : List Str := ["self", "name", "parameters", "states", "handlers"]
abbrev P_Actor_init : List Str := ["self", "name", "parameters", "states", "handlers"]
theorem sc_Actor_init : FnScope N_Actor_init P_Actor_init (defScope sActor_init) := ⟨rfl, rfl, rfl, by decide +kernel, rfl, by decide +kernel, by decide +kernel⟩
theorem Tx.b_Actor_init (T : Tx K mg) : Binds K T.fd_Actor_init P_Actor_init [] := T.D_Actor_init.bindsN fun _ _ _ _ _ _ us hl => match us, hl with | [_, _, _, _, _], _ => rfl
theorem Tx.p_Actor_init (T : Tx K mg) : PySem.W.keepIn K (.ref (He.ma K (He.ga K "Actor") "__init__")) = true := T.D_Actor_init.kp
noncomputable def Tx.fd_Program_init (T : Tx K mg) : FuncData := Classical.choose (T.says.1.def_ 53 (d := dProgram_init))
theorem Tx.D_Program_init (T : Tx K mg) : FunD K "__init__" "Program.__init__" (defArgs sProgram_init) (defBody sProgram_init) (defScope sProgram_init) [] [] (He.ma K (He.ga K "Program") "__init__") T.fd_Program_init := Classical.choose_spec (T.says.1.def_ 53 (d := dProgram_init))
/-- self 0 effects 1 actors 2 -/
abbrev N_Program_init : List Str := ["self", "effects", "actors"]
abbrev P_Program_init : List Str := ["self", "effects", "actors"]
theorem sc_Program_init : FnScope N_Program_init P_Program_init (defScope sProgram_init) := ⟨rfl, rfl, rfl, by decide +kernel, rfl, by decide +kernel, by decide +kernel⟩
theorem Tx.b_Program_init (T : Tx K mg) : Binds K T.fd_Program_init P_Program_init [] := T.D_Program_init.bindsN fun _ _ _ _ _ _ us hl => match us, hl with | [_, _, _], _ => rfl
theorem Tx.p_Program_init (T : Tx K mg) : PySem.W.keepIn K (.ref (He.ma K (He.ga K "Program") "__init__")) = true := T.D_Program_init.kp
noncomputable def Tx.fd_actor_parts (T : Tx K mg) : FuncData := Classical.choose (T.says.1.def_ 54 (d := d_actor_parts))
theorem Tx.D_actor_parts (T : Tx K mg) : FunD K "actor_parts" "actor_parts" (defArgs s_actor_parts) (defBody s_actor_parts) (defScope s_actor_parts) [] [] (He.ga K "actor_parts") T.fd_actor_parts := Classical.choose_spec (T.says.1.def_ 54 (d := d_actor_parts))
/-- actor 0 -/
abbrev N_actor_parts : List Str := ["actor"]
abbrev P_actor_parts : List Str := ["actor"]
theorem sc_actor_parts : FnScope N_actor_parts P_actor_parts (defScope s_actor_parts) := ⟨rfl, rfl, rfl, by decide +kernel, rfl, by decide +kernel, by decide +kernel⟩
theorem Tx.b_actor_parts (T : Tx K mg) : Binds K T.fd_actor_parts P_actor_parts [] := T.D_actor_parts.bindsN fun _ _ _ _ _ _ us hl => match us, hl with | [_], _ => rfl
theorem Tx.p_actor_parts (T : Tx K mg) : PySem.W.keepIn K (.ref (He.ga K "actor_parts")) = true := T.D_actor_parts.kp
noncomputable def Tx.fd_same_program (T : Tx K mg) : FuncData := Classical.choose (T.says.1.def_ 55 (d := d_same_program))
theorem Tx.D_same_program (T : Tx K mg) : FunD K "same_program" "same_program" (defArgs s_same_program) (defBody s_same_program) (defScope s_same_program) [] [] (He.ga K "same_program") T.fd_same_program := Classical.choose_spec (T.says.1.def_ 55 (d := d_same_program))
/-- program 0 other 1 actor 2 -/
abbrev N_same_program : List Str := ["program", "other", "actor"]
abbrev P_same_program : List Str := ["program", "other"]
theorem sc_same_program : FnScope N_same_program P_same_program (defScope s_same_program) := ⟨rfl, rfl, rfl, by decide +kernel, rfl, by decide +kernel, by decide +kernel⟩
theorem Tx.b_same_program (T : Tx K mg) : Binds K T.fd_same_program P_same_program [] := T.D_same_program.bindsN fun _ _ _ _ _ _ us hl => match us, hl with | [_, _], _ => rfl
theorem Tx.p_same_program (T : Tx K mg) : PySem.W.keepIn K (.ref (He.ga K "same_program")) = true := T.D_same_program.kp
noncomputable def Tx.fd_law_state (T : Tx K mg) : FuncData := Classical.choose (T.says.1.def_ 56 (d := d_law_state))
theorem Tx.D_law_state (T : Tx K mg) : FunD K "_law_state" "_law_state" (defArgs s_law_state) (defBody s_law_state) (defScope s_law_state) [] [] (He.ga K "_law_state") T.fd_law_state := Classical.choose_spec (T.says.1.def_ 56 (d := d_law_state))
/-- _law_script 0 -/
abbrev N_law_state : List Str := ["_law_script"]
abbrev P_law_state : List Str := ["_law_script"]
theorem sc_law_state : FnScope N_law_state P_law_state (defScope s_law_state) := ⟨rfl, rfl, rfl, by decide +kernel, rfl, by decide +kernel, by decide +kernel⟩
theorem Tx.b_law_state (T : Tx K mg) : Binds K T.fd_law_state P_law_state [] := T.D_law_state.bindsN fun _ _ _ _ _ _ us hl => match us, hl with | [_], _ => rfl
theorem Tx.p_law_state (T : Tx K mg) : PySem.W.keepIn K (.ref (He.ga K "_law_state")) = true := T.D_law_state.kp
noncomputable def Tx.fd_law_draw (T : Tx K mg) : FuncData := Classical.choose (T.says.1.def_ 57 (d := d_law_draw))
theorem Tx.D_law_draw (T : Tx K mg) : FunD K "_law_draw" "_law_draw" (defArgs s_law_draw) (defBody s_law_draw) (defScope s_law_draw) [] [] (He.ga K "_law_draw") T.fd_law_draw := Classical.choose_spec (T.says.1.def_ 57 (d := d_law_draw))
/-- _law_state_here 0 _law_many 1 _law_value_here 2 _law_cell 3 _law_first 4 -/
abbrev N_law_draw : List Str := ["_law_state_here", "_law_many", "_law_value_here", "_law_cell", "_law_first"]
abbrev P_law_draw : List Str := ["_law_state_here", "_law_many"]
theorem sc_law_draw : FnScope N_law_draw P_law_draw (defScope s_law_draw) := ⟨rfl, rfl, rfl, by decide +kernel, rfl, by decide +kernel, by decide +kernel⟩
theorem Tx.b_law_draw (T : Tx K mg) : Binds K T.fd_law_draw P_law_draw [] := T.D_law_draw.bindsN fun _ _ _ _ _ _ us hl => match us, hl with | [_, _], _ => rfl
theorem Tx.p_law_draw (T : Tx K mg) : PySem.W.keepIn K (.ref (He.ga K "_law_draw")) = true := T.D_law_draw.kp
noncomputable def Tx.fd_law_exp (T : Tx K mg) : FuncData := Classical.choose (T.says.1.def_ 58 (d := d_law_exp))
theorem Tx.D_law_exp (T : Tx K mg) : FunD K "_law_exp" "_law_exp" (defArgs s_law_exp) (defBody s_law_exp) (defScope s_law_exp) [] [] (He.ga K "_law_exp") T.fd_law_exp := Classical.choose_spec (T.says.1.def_ 58 (d := d_law_exp))
/-- _law_state_here 0 _law_names 1 _law_depth 2 _law_pick 3 _law_word 4 -/
abbrev N_law_exp : List Str := ["_law_state_here", "_law_names", "_law_depth", "_law_pick", "_law_word"]
abbrev P_law_exp : List Str := ["_law_state_here", "_law_names", "_law_depth"]
theorem sc_law_exp : FnScope N_law_exp P_law_exp (defScope s_law_exp) := ⟨rfl, rfl, rfl, by decide +kernel, rfl, by decide +kernel, by decide +kernel⟩
theorem Tx.b_law_exp (T : Tx K mg) : Binds K T.fd_law_exp P_law_exp [] := T.D_law_exp.bindsN fun _ _ _ _ _ _ us hl => match us, hl with | [_, _, _], _ => rfl
theorem Tx.p_law_exp (T : Tx K mg) : PySem.W.keepIn K (.ref (He.ga K "_law_exp")) = true := T.D_law_exp.kp
noncomputable def Tx.fd_law_number (T : Tx K mg) : FuncData := Classical.choose (T.says.1.def_ 59 (d := d_law_number))
theorem Tx.D_law_number (T : Tx K mg) : FunD K "_law_number" "_law_number" (defArgs s_law_number) (defBody s_law_number) (defScope s_law_number) [] [] (He.ga K "_law_number") T.fd_law_number := Classical.choose_spec (T.says.1.def_ 59 (d := d_law_number))
/-- _law_state_here 0 _law_pick 1 -/
abbrev N_law_number : List Str := ["_law_state_here", "_law_pick"]
abbrev P_law_number : List Str := ["_law_state_here"]
theorem sc_law_number : FnScope N_law_number P_law_number (defScope s_law_number) := ⟨rfl, rfl, rfl, by decide +kernel, rfl, by decide +kernel, by decide +kernel⟩
theorem Tx.b_law_number (T : Tx K mg) : Binds K T.fd_law_number P_law_number [] := T.D_law_number.bindsN fun _ _ _ _ _ _ us hl => match us, hl with | [_], _ => rfl
theorem Tx.p_law_number (T : Tx K mg) : PySem.W.keepIn K (.ref (He.ga K "_law_number")) = true := T.D_law_number.kp
noncomputable def Tx.fd_law_statement (T : Tx K mg) : FuncData := Classical.choose (T.says.1.def_ 60 (d := d_law_statement))
theorem Tx.D_law_statement (T : Tx K mg) : FunD K "_law_statement" "_law_statement" (defArgs s_law_statement) (defBody s_law_statement) (defScope s_law_statement) [] [] (He.ga K "_law_statement") T.fd_law_statement := Classical.choose_spec (T.says.1.def_ 60 (d := d_law_statement))
/-- _law_state_here 0 _law_box_here 1 _law_depth 2 _law_pick 3 _law_names 4 _law_name 5 _law_exp_here 6 _law_first 7 _law_target 8 _law_message 9 _law_count 10 _law_kind 11 _law_turn 12 -/
abbrev N_law_statement : List Str := ["_law_state_here", "_law_box_here", "_law_depth", "_law_pick", "_law_names", "_law_name", "_law_exp_here", "_law_first", "_law_target", "_law_message", "_law_count", "_law_kind", "_law_turn"]
abbrev P_law_statement : List Str := ["_law_state_here", "_law_box_here", "_law_depth"]
theorem sc_law_statement : FnScope N_law_statement P_law_statement (defScope s_law_statement) := ⟨rfl, rfl, rfl, by decide +kernel, rfl, by decide +kernel, by decide +kernel⟩
theorem Tx.b_law_statement (T : Tx K mg) : Binds K T.fd_law_statement P_law_statement [] := T.D_law_statement.bindsN fun _ _ _ _ _ _ us hl => match us, hl with | [_, _, _], _ => rfl
theorem Tx.p_law_statement (T : Tx K mg) : PySem.W.keepIn K (.ref (He.ga K "_law_statement")) = true := T.D_law_statement.kp
noncomputable def Tx.fd_law_body (T : Tx K mg) : FuncData := Classical.choose (T.says.1.def_ 61 (d := d_law_body))
theorem Tx.D_law_body (T : Tx K mg) : FunD K "_law_body" "_law_body" (defArgs s_law_body) (defBody s_law_body) (defScope s_law_body) [] [] (He.ga K "_law_body") T.fd_law_body := Classical.choose_spec (T.says.1.def_ 61 (d := d_law_body))
/-- _law_state_here 0 _law_box_here 1 _law_depth 2 _law_turn 3 -/
abbrev N_law_body : List Str := ["_law_state_here", "_law_box_here", "_law_depth", "_law_turn"]
abbrev P_law_body : List Str := ["_law_state_here", "_law_box_here", "_law_depth"]
theorem sc_law_body : FnScope N_law_body P_law_body (defScope s_law_body) := ⟨rfl, rfl, rfl, by decide +kernel, rfl, by decide +kernel, by decide +kernel⟩
theorem Tx.b_law_body (T : Tx K mg) : Binds K T.fd_law_body P_law_body [] := T.D_law_body.bindsN fun _ _ _ _ _ _ us hl => match us, hl with | [_, _, _], _ => rfl
theorem Tx.p_law_body (T : Tx K mg) : PySem.W.keepIn K (.ref (He.ga K "_law_body")) = true := T.D_law_body.kp
noncomputable def Tx.fd_law_begun (T : Tx K mg) : FuncData := Classical.choose (T.says.1.def_ 62 (d := d_law_begun))
theorem Tx.D_law_begun (T : Tx K mg) : FunD K "_law_begun" "_law_begun" (defArgs s_law_begun) (defBody s_law_begun) (defScope s_law_begun) [] [] (He.ga K "_law_begun") T.fd_law_begun := Classical.choose_spec (T.says.1.def_ 62 (d := d_law_begun))
/-- _law_body_here 0 -/
abbrev N_law_begun : List Str := ["_law_body_here"]
abbrev P_law_begun : List Str := ["_law_body_here"]
theorem sc_law_begun : FnScope N_law_begun P_law_begun (defScope s_law_begun) := ⟨rfl, rfl, rfl, by decide +kernel, rfl, by decide +kernel, by decide +kernel⟩
theorem Tx.b_law_begun (T : Tx K mg) : Binds K T.fd_law_begun P_law_begun [] := T.D_law_begun.bindsN fun _ _ _ _ _ _ us hl => match us, hl with | [_], _ => rfl
theorem Tx.p_law_begun (T : Tx K mg) : PySem.W.keepIn K (.ref (He.ga K "_law_begun")) = true := T.D_law_begun.kp
noncomputable def Tx.fd_law_box (T : Tx K mg) : FuncData := Classical.choose (T.says.1.def_ 63 (d := d_law_box))
theorem Tx.D_law_box (T : Tx K mg) : FunD K "_law_box" "_law_box" (defArgs s_law_box) (defBody s_law_box) (defScope s_law_box) [] [] (He.ga K "_law_box") T.fd_law_box := Classical.choose_spec (T.says.1.def_ 63 (d := d_law_box))
/-- _law_states 0 _law_parameters 1 _law_names 2 _law_messages 3 -/
abbrev N_law_box : List Str := ["_law_states", "_law_parameters", "_law_names", "_law_messages"]
abbrev P_law_box : List Str := ["_law_states", "_law_parameters"]
theorem sc_law_box : FnScope N_law_box P_law_box (defScope s_law_box) := ⟨rfl, rfl, rfl, by decide +kernel, rfl, by decide +kernel, by decide +kernel⟩
theorem Tx.b_law_box (T : Tx K mg) : Binds K T.fd_law_box P_law_box [] := T.D_law_box.bindsN fun _ _ _ _ _ _ us hl => match us, hl with | [_, _], _ => rfl
theorem Tx.p_law_box (T : Tx K mg) : PySem.W.keepIn K (.ref (He.ga K "_law_box")) = true := T.D_law_box.kp
noncomputable def Tx.fd_law_program (T : Tx K mg) : FuncData := Classical.choose (T.says.1.def_ 64 (d := d_law_program))
theorem Tx.D_law_program (T : Tx K mg) : FunD K "_law_program" "_law_program" (defArgs s_law_program) (defBody s_law_program) (defScope s_law_program) [] [] (He.ga K "_law_program") T.fd_law_program := Classical.choose_spec (T.says.1.def_ 64 (d := d_law_program))
/-- _law_state_here 0 _law_main 1 _law_own 2 _law_box_here 3 _law_other 4 _law_two 5 _law_one 6 _law_back 7 -/
abbrev N_law_program : List Str := ["_law_state_here", "_law_main", "_law_own", "_law_box_here", "_law_other", "_law_two", "_law_one", "_law_back"]
abbrev P_law_program : List Str := ["_law_state_here"]
theorem sc_law_program : FnScope N_law_program P_law_program (defScope s_law_program) := ⟨rfl, rfl, rfl, by decide +kernel, rfl, by decide +kernel, by decide +kernel⟩
theorem Tx.b_law_program (T : Tx K mg) : Binds K T.fd_law_program P_law_program [] := T.D_law_program.bindsN fun _ _ _ _ _ _ us hl => match us, hl with | [_], _ => rfl
theorem Tx.p_law_program (T : Tx K mg) : PySem.W.keepIn K (.ref (He.ga K "_law_program")) = true := T.D_law_program.kp
noncomputable def Tx.fd_law_event (T : Tx K mg) : FuncData := Classical.choose (T.says.1.def_ 65 (d := d_law_event))
theorem Tx.D_law_event (T : Tx K mg) : FunD K "_law_event" "_law_event" (defArgs s_law_event) (defBody s_law_event) (defScope s_law_event) [] [] (He.ga K "_law_event") T.fd_law_event := Classical.choose_spec (T.says.1.def_ 65 (d := d_law_event))
/-- _law_state_here 0 _law_waiting 1 _law_pending 2 _law_paths 3 _law_pick 4 _law_path 5 _law_message 6 _law_count 7 _law_turn 8 -/
abbrev N_law_event : List Str := ["_law_state_here", "_law_waiting", "_law_pending", "_law_paths", "_law_pick", "_law_path", "_law_message", "_law_count", "_law_turn"]
abbrev P_law_event : List Str := ["_law_state_here", "_law_waiting", "_law_pending", "_law_paths"]
theorem sc_law_event : FnScope N_law_event P_law_event (defScope s_law_event) := ⟨rfl, rfl, rfl, by decide +kernel, rfl, by decide +kernel, by decide +kernel⟩
theorem Tx.b_law_event (T : Tx K mg) : Binds K T.fd_law_event P_law_event [] := T.D_law_event.bindsN fun _ _ _ _ _ _ us hl => match us, hl with | [_, _, _, _], _ => rfl
theorem Tx.p_law_event (T : Tx K mg) : PySem.W.keepIn K (.ref (He.ga K "_law_event")) = true := T.D_law_event.kp
noncomputable def Tx.fd_law_recorded (T : Tx K mg) : FuncData := Classical.choose (T.says.1.def_ 66 (d := d_law_recorded))
theorem Tx.D_law_recorded (T : Tx K mg) : FunD K "_law_recorded" "_law_recorded" (defArgs s_law_recorded) (defBody s_law_recorded) (defScope s_law_recorded) [] [] (He.ga K "_law_recorded") T.fd_law_recorded := Classical.choose_spec (T.says.1.def_ 66 (d := d_law_recorded))
/-- _law_history 0 _law_event_here 1 error 2 -/
abbrev N_law_recorded : List Str := ["_law_history", "_law_event_here", "error"]
abbrev P_law_recorded : List Str := ["_law_history", "_law_event_here"]
theorem sc_law_recorded : FnScope N_law_recorded P_law_recorded (defScope s_law_recorded) := ⟨rfl, rfl, rfl, by decide +kernel, rfl, by decide +kernel, by decide +kernel⟩
theorem Tx.b_law_recorded (T : Tx K mg) : Binds K T.fd_law_recorded P_law_recorded [] := T.D_law_recorded.bindsN fun _ _ _ _ _ _ us hl => match us, hl with | [_, _], _ => rfl
theorem Tx.p_law_recorded (T : Tx K mg) : PySem.W.keepIn K (.ref (He.ga K "_law_recorded")) = true := T.D_law_recorded.kp
noncomputable def Tx.fd_law_is_no_moment (T : Tx K mg) : FuncData := Classical.choose (T.says.1.def_ 67 (d := d_law_is_no_moment))
theorem Tx.D_law_is_no_moment (T : Tx K mg) : FunD K "_law_is_no_moment" "_law_is_no_moment" (defArgs s_law_is_no_moment) (defBody s_law_is_no_moment) (defScope s_law_is_no_moment) [] [] (He.ga K "_law_is_no_moment") T.fd_law_is_no_moment := Classical.choose_spec (T.says.1.def_ 67 (d := d_law_is_no_moment))
/-- _law_history 0 _law_moment 1 _law_count 2 _law_turn_here 3 error 4 -/
abbrev N_law_is_no_moment : List Str := ["_law_history", "_law_moment", "_law_count", "_law_turn_here", "error"]
abbrev P_law_is_no_moment : List Str := ["_law_history", "_law_moment"]
theorem sc_law_is_no_moment : FnScope N_law_is_no_moment P_law_is_no_moment (defScope s_law_is_no_moment) := ⟨rfl, rfl, rfl, by decide +kernel, rfl, by decide +kernel, by decide +kernel⟩
theorem Tx.b_law_is_no_moment (T : Tx K mg) : Binds K T.fd_law_is_no_moment P_law_is_no_moment [] := T.D_law_is_no_moment.bindsN fun _ _ _ _ _ _ us hl => match us, hl with | [_, _], _ => rfl
theorem Tx.p_law_is_no_moment (T : Tx K mg) : PySem.W.keepIn K (.ref (He.ga K "_law_is_no_moment")) = true := T.D_law_is_no_moment.kp
noncomputable def Tx.fd_law_is_right (T : Tx K mg) : FuncData := Classical.choose (T.says.1.def_ 68 (d := d_law_is_right))
theorem Tx.D_law_is_right (T : Tx K mg) : FunD K "_law_is_right" "_law_is_right" (defArgs s_law_is_right) (defBody s_law_is_right) (defScope s_law_is_right) [] [] (He.ga K "_law_is_right") T.fd_law_is_right := Classical.choose_spec (T.says.1.def_ 68 (d := d_law_is_right))
/-- _law_state_here 0 _law_history 1 _law_states 2 _law_turn 3 _law_moment 4 -/
abbrev N_law_is_right : List Str := ["_law_state_here", "_law_history", "_law_states", "_law_turn", "_law_moment"]
abbrev P_law_is_right : List Str := ["_law_state_here", "_law_history", "_law_states"]
theorem sc_law_is_right : FnScope N_law_is_right P_law_is_right (defScope s_law_is_right) := ⟨rfl, rfl, rfl, by decide +kernel, rfl, by decide +kernel, by decide +kernel⟩
theorem Tx.b_law_is_right (T : Tx K mg) : Binds K T.fd_law_is_right P_law_is_right [] := T.D_law_is_right.bindsN fun _ _ _ _ _ _ us hl => match us, hl with | [_, _, _], _ => rfl
theorem Tx.p_law_is_right (T : Tx K mg) : PySem.W.keepIn K (.ref (He.ga K "_law_is_right")) = true := T.D_law_is_right.kp
noncomputable def Tx.fd_law (T : Tx K mg) : FuncData := Classical.choose (T.says.1.def_ 69 (d := d_law))
theorem Tx.D_law (T : Tx K mg) : FunD K "law" "law" (defArgs s_law) (defBody s_law) (defScope s_law) [] [] (He.ga K "law") T.fd_law := Classical.choose_spec (T.says.1.def_ 69 (d := d_law))
/-- _law_script 0 _law_state_here 1 _law_program_here 2 _law_every 3 _law_history 4 _law_states 5 _law_events 6 _law_tolds 7 _law_forgotten 8 _law_turn 9 _law_at 10 _law_event_here 11 _law_after 12 _law_told 13 _law_moments 14 _law_moment 15 _law_kept 16 _law_whole 17 _law_short 18 _law_again 19 _law_k 20 -/
abbrev N_law : List Str := ["_law_script", "_law_state_here", "_law_program_here", "_law_every", "_law_history", "_law_states", "_law_events", "_law_tolds", "_law_forgotten", "_law_turn", "_law_at", "_law_event_here", "_law_after", "_law_told", "_law_moments", "_law_moment", "_law_kept", "_law_whole", "_law_short", "_law_again", "_law_k"]
abbrev P_law : List Str := ["_law_script"]
theorem sc_law : FnScope N_law P_law (defScope s_law) := ⟨rfl, rfl, rfl, by decide +kernel, rfl, by decide +kernel, by decide +kernel⟩
theorem Tx.b_law (T : Tx K mg) : Binds K T.fd_law P_law [] := T.D_law.bindsN fun _ _ _ _ _ _ us hl => match us, hl with | [_], _ => rfl
theorem Tx.p_law (T : Tx K mg) : PySem.W.keepIn K (.ref (He.ga K "law")) = true := T.D_law.kp
end
end Rk
/-! The three errors: made and raised; their field read. -/
namespace Rk
open PySem PySem.Spec PyProof.Rows L2
section
variable {K : PySem.W.Frag} {mg : Str → Option Value}
theorem oexK_ok {C : Addr} (h : oexK K C = true) : ∃ nm q N bs bm sn sub ab col dd k0 k1 k2 k3 k5, K.lookup C = some (excClassObj nm q C N bs bm true sn sub ab col dd k0 k1 k2 k3 k5 "ValueError.__new__") ∧ PySem.HandSPX.refsVE bm = true := by
  unfold oexK at h
  split at h
  · rename_i dc cd sl e
    split at h
    · rename_i C' bm k0 k1 k2 k3 n k5 em es
      simp only [Bool.and_eq_true, decide_eq_true_eq, Bool.not_eq_true'] at h
      obtain ⟨rfl, rfl, hd, hdi, ve⟩ := h
      obtain ⟨nm, bs, mro, N, q, hdc, sn, sub, ab, col, del⟩ := cd
      obtain ⟨sl⟩ := sl
      simp only at em es hd hdi
      subst em es hd hdi
      exact ⟨nm, q, N, bs, bm, sn, sub, ab, col, dc, k0, k1, k2, k3, k5, e, ve⟩
    · exact Bool.noConfusion h
  · exact Bool.noConfusion h
structure ErrC (K : PySem.W.Frag) (x : Str) : Prop where
  oex : OexC K (He.ga K x)
  xf : XfC K (He.ga K x)
  init : PySem.W.findIn K (.ref (He.ga K x)) "__init__" = some (some (.ref (He.ma K (He.ga K x) "__init__")))
  fn : PySem.W.typeIn K (.ref (He.ma K (He.ga K x) "__init__")) = some (.type "function")
theorem oexB_ok {x : Str} (h : oexB K x = true) : ErrC K x := by
  unfold oexB at h
  simp only [Bool.and_eq_true, decide_eq_true_eq] at h
  obtain ⟨a, b, c, d, e, f, g, i⟩ := h
  exact ⟨⟨oexK_ok a, He.eqO_ok b, c, d, e⟩, xfB_ok f, He.eqO_ok g, i⟩
theorem mk0B_ok {x : Str} (h : mk0B K x = true) : Mk0 K (He.ga K x) := by
  unfold mk0B at h
  simp only [Bool.and_eq_true, decide_eq_true_eq] at h
  obtain ⟨a, b, c, d⟩ := h
  exact ⟨a, He.eqO_ok b, c, d⟩
theorem Tx.exs (T : Tx K mg) : oexB K "Fault" = true ∧ oexB K "ImpossibleEvent" = true ∧ oexB K "InvalidMoment" = true ∧ mk0B K "Reckoner" = true ∧ mk0B K "Plain" = true := by
  have h := T.says.2
  unfold exB at h
  simpa only [Bool.and_eq_true] using h
theorem Tx.e_Fault (T : Tx K mg) : ErrC K "Fault" := oexB_ok T.exs.1
theorem Tx.e_ImpossibleEvent (T : Tx K mg) : ErrC K "ImpossibleEvent" := oexB_ok T.exs.2.1
theorem Tx.e_InvalidMoment (T : Tx K mg) : ErrC K "InvalidMoment" := oexB_ok T.exs.2.2.1
theorem Tx.o_Reckoner (T : Tx K mg) : Mk0 K (He.ga K "Reckoner") := mk0B_ok T.exs.2.2.2.1
theorem Tx.o_Plain (T : Tx K mg) : Mk0 K (He.ga K "Plain") := mk0B_ok T.exs.2.2.2.2
/-- __init__ of an error: self.f = e -/
def spErr (C : Addr) (f : Str) : Sp := fun vs H Q _ => ∃ a v, vs = [.ref a, v] ∧ H a = some (exo a C none) ∧ ∀ dx, H dx = none → dx ≠ a → Q .non (upd (upd H dx (exd dx [(f, v)])) a (exo a C (some dx)))
variable {P : Program} {w : World} {base : Heap}
theorem ok_Fault_init (T : Tx K mg) : FnOk P w K mg base (L2N.CX P w) 1 (He.ma K (He.ga K "Fault") "__init__") T.fd_Fault_init P_Fault_init (spErr (He.ga K "Fault") "reason") := by
  refine T.D_Fault_init.ok sc_Fault_init (fun vs H Q E h => by obtain ⟨a, v, rfl, _⟩ := h; rfl) fun cdv A outer s H vs Q E hr h => ⟨_, pss_one (ps_ost (pv 0) (pv 1)), ?_⟩
  obtain ⟨a, v, rfl, ea, q⟩ := h
  exact ⟨_, rfl, _, rfl, a, _, rfl, T.e_Fault.oex, T.n_Fault_reason, .inl ⟨ea, fun dx n ne => q dx n ne⟩⟩
theorem ok_ImpossibleEvent_init (T : Tx K mg) : FnOk P w K mg base (L2N.CX P w) 1 (He.ma K (He.ga K "ImpossibleEvent") "__init__") T.fd_ImpossibleEvent_init P_ImpossibleEvent_init (spErr (He.ga K "ImpossibleEvent") "event") := by
  refine T.D_ImpossibleEvent_init.ok sc_ImpossibleEvent_init (fun vs H Q E h => by obtain ⟨a, v, rfl, _⟩ := h; rfl) fun cdv A outer s H vs Q E hr h => ⟨_, pss_one (ps_ost (pv 0) (pv 1)), ?_⟩
  obtain ⟨a, v, rfl, ea, q⟩ := h
  exact ⟨_, rfl, _, rfl, a, _, rfl, T.e_ImpossibleEvent.oex, T.n_ImpossibleEvent_event, .inl ⟨ea, fun dx n ne => q dx n ne⟩⟩
theorem ok_InvalidMoment_init (T : Tx K mg) : FnOk P w K mg base (L2N.CX P w) 1 (He.ma K (He.ga K "InvalidMoment") "__init__") T.fd_InvalidMoment_init P_InvalidMoment_init (spErr (He.ga K "InvalidMoment") "moment") := by
  refine T.D_InvalidMoment_init.ok sc_InvalidMoment_init (fun vs H Q E h => by obtain ⟨a, v, rfl, _⟩ := h; rfl) fun cdv A outer s H vs Q E hr h => ⟨_, pss_one (ps_ost (pv 0) (pv 1)), ?_⟩
  obtain ⟨a, v, rfl, ea, q⟩ := h
  exact ⟨_, rfl, _, rfl, a, _, rfl, T.e_InvalidMoment.oex, T.n_InvalidMoment_moment, .inl ⟨ea, fun dx n ne => q dx n ne⟩⟩
end
theorem iT {b : Bool} {A B : Prop} (h : b = true) (a : A) : if b = true then A else B := by rw [if_pos h]; exact a
theorem iF {b : Bool} {A B : Prop} (h : b = false) (a : B) : if b = true then A else B := by rw [if_neg (by rw [h]; exact Bool.false_ne_true)]; exact a
theorem nT {c : Prop} [Decidable c] (h : c) : (!decide c) = false := by rw [decide_eq_true h]; rfl
theorem nF {c : Prop} [Decidable c] (h : ¬ c) : (!decide c) = true := by rw [decide_eq_false h]; rfl
/-- a reading may be widened -/
def tM (te : TE) : TE := fun σ H Q => ∃ R : VK, te σ H R ∧ ∀ v Ha, R v Ha → Q v Ha
theorem pe_mono {X : Cx} {e : Expr} {te : TE} (he : PE X e te) : PE X e (tM te) := ⟨fun pins s σ H Q I ⟨R, h, imp⟩ => thn (he.run pins s σ H R I h) fun u sa ⟨v, Ha, Ia, r, q⟩ => ⟨v, Ha, Ia, r, imp v Ha q⟩⟩
/-- the reading of raise C(e) -/
def tRaise (C : Addr) (f : Str) (W : WX) (te : TE) : TS := fun _ σ H => te σ H fun v Ha => ∀ Hb dx, Kp [] Ha Hb → Hb dx = some (.xd [(f, v)]) → W (.ref C) (some dx) σ Hb
theorem ps_raiseE {X : Cx} {x f : Str} {C g : Addr} {fd : FuncData} {names : List Str} {W : WX} {e : Expr} {te : TE} {p pos q : Pos} (hC : OexC X.K C) (hI : PySem.W.findIn X.K (.ref C) "__init__" = some (some (.ref g))) (hT : PySem.W.typeIn X.K (.ref g) = some (.type "function"))
    (fn : FnOk X.prog X.w X.K X.mg X.base (L2N.CX X.prog X.w) 1 g fd names (spErr C f)) (room : Room 2 X.A) (bd : Binds X.K fd names []) (calm : X.calm = true) (gl : Gl X x) (at_ : X.mg x = some (.ref C)) (tk : L2N.Takes X W) (he : PE X e te)
    (dbg : (x == ("__debug__" : Str)) = false := by decide) (st : starEach [e] X.env = (false, eval e X.env) :: starEach [] X.env := by rfl) :
    PS X (.Raise (some (.Call (.Name x p) [e] [] pos)) none q) (tRaise C f W te) := by
  refine ⟨fun pins s σ H D I h => (L2N.ps_raise calm tk (pmk_err hC hI hT fn room bd passF gl at_ (pa_cons (pe_mono he) pa_nil (hs := st)) dbg st rfl)).run pins s σ H D I ?_⟩
  refine ⟨_, h, fun v Ha q => ⟨by show 1 ≤ 1000; decide, fun a na => ⟨a, v, rfl, upd_same, fun dx nx ne => ⟨rfl, dx, [(f, v)], upd_same, ?_, ?_, ?_⟩⟩⟩⟩
  · rw [upd_ne ne, upd_same]
  · rw [upd_ne ne] at nx
    exact nx
  · rw [upd_ne ne] at nx
    refine q _ dx ?_ upd_same
    have keep : ∀ b o, Ha b = some o → (upd (del (upd (upd (upd Ha a (exo a C none)) dx (exd dx [(f, v)])) a (exo a C (some dx))) a) dx (.xd [(f, v)])) b = some o := fun b o e => by
      have hb : b ≠ a := ne_of_none e na
      have hd : b ≠ dx := ne_of_none e nx
      rw [upd_ne hd, del_ne hb, upd_ne hb, upd_ne hd, upd_ne hb]
      exact e
    refine ⟨fun b xs e => keep b _ e, fun b o u e => keep b _ e, fun b o _ e => keep b o e, fun b e => ?_⟩
    cases eb : Ha b with
    | none => rfl
    | some o => rw [keep b o eb] at e; cases e
end Rk
/-! What the program computes, in plain Lean. -/
namespace Rk
open PySem PySem.Spec PyProof.Rows L2
/-! ### expressions -/
inductive Op | plus | minus | times | less | atmost | same | and | or | over | rest
  deriving DecidableEq
def Op.s : Op → Str
  | .plus => "plus" | .minus => "minus" | .times => "times" | .less => "less" | .atmost => "atmost" | .same => "same" | .and => "and" | .or => "or" | .over => "over" | .rest => "rest"
inductive Ex | num (i : Int) | nam (x : Str) | neg (e : Ex) | nt (e : Ex) | bin (o : Op) (a b : Ex)
def exD : Ex → PyData
  | .num i => .tuple [.str "number", .int i]
  | .nam x => .tuple [.str "name", .str x]
  | .neg e => .tuple [.str "negative", exD e]
  | .nt e => .tuple [.str "not", exD e]
  | .bin o a b => .tuple [.str o.s, exD a, exD b]
def Ex.dep : Ex → Nat
  | .num _ | .nam _ => 0
  | .neg e | .nt e => e.dep + 1
  | .bin _ a b => max a.dep b.dep + 1
/-- every name it reads -/
def Ex.all (D : Str → Prop) : Ex → Prop
  | .num _ => True
  | .nam x => D x
  | .neg e | .nt e => e.all D
  | .bin _ a b => a.all D ∧ b.all D
theorem Ex.all_mono {D D' : Str → Prop} (h : ∀ x, D x → D' x) : ∀ {e : Ex}, e.all D → e.all D'
  | .num _, _ => trivial
  | .nam x, q => h x q
  | .neg e, q => Ex.all_mono (e := e) h q
  | .nt e, q => Ex.all_mono (e := e) h q
  | .bin _ a b, ⟨p, q⟩ => ⟨Ex.all_mono (e := a) h p, Ex.all_mono (e := b) h q⟩
def Bv (i : Int) : Prop := -1000000000 ≤ i ∧ i ≤ 1000000000
instance (i : Int) : Decidable (Bv i) := inferInstanceAs (Decidable (_ ∧ _))
/-- a whole number, or why not -/
inductive Er (α : Type) | ok (a : α) | bad (r : Str)
def chk (i : Int) : Er Int := if Bv i then .ok i else .bad "range"
def bi (b : Bool) : Int := if b then 1 else 0
def comb : Op → Int → Int → Er Int
  | .plus, a, b => .ok (a + b)
  | .minus, a, b => .ok (a - b)
  | .times, a, b => .ok (a * b)
  | .less, a, b => .ok (bi (decide (a < b)))
  | .atmost, a, b => .ok (bi (decide (a ≤ b)))
  | .same, a, b => .ok (bi (decide (a = b)))
  | .over, a, b => if b = 0 then .bad "zero" else .ok (a.fdiv b)
  | _, a, b => if b = 0 then .bad "zero" else .ok (a - b * a.fdiv b)
def Er.bind {α β : Type} : Er α → (α → Er β) → Er β
  | .ok a, f => f a
  | .bad r, _ => .bad r
abbrev Nm := Str → Option Int
def ev (f : Nm) : Ex → Er Int
  | .num i => chk i
  | .nam x => .ok ((f x).getD 0)
  | .neg e => (ev f e).bind fun v => chk (-v)
  | .nt e => (ev f e).bind fun v => .ok (bi (decide (v = 0)))
  | .bin o a b => (ev f a).bind fun x =>
    if o = .and ∧ x = 0 then .ok 0 else if o = .or ∧ x ≠ 0 then .ok 1 else (ev f b).bind fun y =>
      if o = .and ∨ o = .or then .ok (bi (decide (y ≠ 0))) else (comb o x y).bind chk
def BNm (f : Nm) : Prop := ∀ x i, f x = some i → Bv i
theorem chk_Bv {i j : Int} (h : chk i = .ok j) : Bv j := by
  unfold chk at h
  split at h
  · rename_i b
    cases h
    exact b
  · cases h
theorem bi_Bv (b : Bool) : Bv (bi b) := by cases b <;> (unfold bi Bv; decide)
theorem Er.bind_ok {α β : Type} {x : Er α} {f : α → Er β} {b : β} (h : x.bind f = .ok b) : ∃ a, x = .ok a ∧ f a = .ok b := by
  cases x with
  | ok a => exact ⟨a, rfl, h⟩
  | bad r => cases h
theorem ev_Bv {f : Nm} (hf : BNm f) : ∀ {e : Ex} {i : Int}, ev f e = .ok i → Bv i
  | .num _, _, h => chk_Bv h
  | .nam x, i, h => by
    cases h
    cases e : f x with
    | none => exact ⟨by decide, by decide⟩
    | some j => exact hf x j e
  | .neg e, _, h => let ⟨_, _, q⟩ := Er.bind_ok h; chk_Bv q
  | .nt e, _, h => by
    obtain ⟨_, _, q⟩ := Er.bind_ok h
    cases q
    exact bi_Bv _
  | .bin o a b, i, h => by
    obtain ⟨x, _, q⟩ := Er.bind_ok h
    split at q
    · cases q; exact ⟨by decide, by decide⟩
    · split at q
      · cases q; exact ⟨by decide, by decide⟩
      · obtain ⟨y, _, q⟩ := Er.bind_ok q
        split at q
        · cases q; exact bi_Bv _
        · obtain ⟨z, _, q⟩ := Er.bind_ok q
          exact chk_Bv q
/-! ### rows of names and values -/
abbrev Env := List (Str × Int)
def getN (n : Env) : Nm := fun x => (n.find? fun p => decide (p.1 = x)).map (·.2)
def putN (n : Env) (x : Str) (i : Int) : Env := if (n.any fun p => decide (p.1 = x)) = true then n.map (fun p => if p.1 = x then (p.1, i) else p) else n ++ [(x, i)]
def dN (n : Env) : List (Key × V) := n.map fun p => (Sum.inr p.1, .int p.2)
theorem valV_dN (n : Env) (x : Str) : valV (dN n) (.inr x) = (getN n x).map V.int := by
  unfold valV getN dN
  induction n with
  | nil => rfl
  | cons p r ih =>
    rw [List.map_cons, List.find?_cons, List.find?_cons]
    by_cases e : p.1 = x
    · simp [e]
    · have e2 : ¬ (Sum.inr p.1 : Key) = Sum.inr x := fun z => e (Sum.inr.inj z)
      simp only [e, e2, decide_false]
      exact ih
theorem putK_dN (n : Env) (x : Str) (i : Int) : putK (dN n) (.inr x) (.int i) = dN (putN n x i) := by
  have h : ((dN n).any fun kv => decide (kv.1 = Sum.inr x)) = n.any fun p => decide (p.1 = x) := by
    unfold dN
    rw [List.any_map]
    refine List.any_congr rfl fun p => ?_
    show decide ((Sum.inr p.1 : Key) = Sum.inr x) = decide (p.1 = x)
    by_cases e : p.1 = x
    · rw [e]; simp
    · rw [decide_eq_false e, decide_eq_false fun z => e (Sum.inr.inj z)]
  unfold putK putN
  rw [h]
  split
  · unfold dN
    rw [List.map_map, List.map_map]
    refine List.map_congr_left fun p _ => ?_
    show (if (Sum.inr p.1 : Key) = Sum.inr x then ((Sum.inr p.1 : Key), V.int i) else (Sum.inr p.1, V.int p.2)) = (Sum.inr (if p.1 = x then (p.1, i) else p).1, V.int (if p.1 = x then (p.1, i) else p).2)
    by_cases e : p.1 = x
    · rw [if_pos (by rw [e]), if_pos e]
    · rw [if_neg (fun z => e (Sum.inr.inj z)), if_neg e]
  · unfold dN
    rw [List.map_append]
    rfl
def upN (f : Nm) (x : Str) (i : Int) : Nm := fun y => if y = x then some i else f y
theorem getN_putN (n : Env) (x : Str) (i : Int) : getN (putN n x i) = upN (getN n) x i := by
  funext y
  have h := valV_dN (putN n x i) y
  rw [← putK_dN, valV_put] at h
  unfold upN
  by_cases e : y = x
  · rw [if_pos (by rw [e])] at h
    rw [if_pos e]
    cases q : getN (putN n x i) y with
    | none => rw [q] at h; cases h
    | some j => rw [q] at h; cases h; rfl
  · rw [if_neg (fun z => e (Sum.inr.inj z)), valV_dN] at h
    rw [if_neg e]
    cases q : getN (putN n x i) y with
    | none =>
      rw [q] at h
      cases q2 : getN n y with
      | none => rfl
      | some j => rw [q2] at h; cases h
    | some j =>
      rw [q] at h
      cases q2 : getN n y with
      | none => rw [q2] at h; cases h
      | some j2 => rw [q2] at h; cases h; rfl
theorem getN_nil : getN [] = fun _ => none := rfl
theorem getN_isSome (n : Env) (x : Str) : (getN n x).isSome = true ↔ x ∈ n.map (·.1) := by
  unfold getN
  rw [Option.isSome_map, List.find?_isSome]
  constructor
  · rintro ⟨p, m, e⟩
    exact List.mem_map.mpr ⟨p, m, of_decide_eq_true e⟩
  · intro m
    obtain ⟨p, m, e⟩ := List.mem_map.mp m
    exact ⟨p, m, decide_eq_true e⟩
theorem any_keys (n : Env) (x : Str) : (n.any fun p => decide (p.1 = x)) = true ↔ x ∈ n.map (·.1) := by
  rw [List.any_eq_true]
  constructor
  · rintro ⟨p, m, e⟩
    exact List.mem_map.mpr ⟨p, m, of_decide_eq_true e⟩
  · intro m
    obtain ⟨p, m, e⟩ := List.mem_map.mp m
    exact ⟨p, m, decide_eq_true e⟩
theorem putN_new {n : Env} {x : Str} (i : Int) (h : x ∉ n.map (·.1)) : putN n x i = n ++ [(x, i)] := by
  unfold putN
  rw [if_neg fun z => h ((any_keys n x).mp z)]
theorem keys_putN_old {n : Env} {x : Str} (i : Int) (h : x ∈ n.map (·.1)) : (putN n x i).map (·.1) = n.map (·.1) := by
  unfold putN
  rw [if_pos ((any_keys n x).mpr h), List.map_map]
  refine List.map_congr_left fun p _ => ?_
  show (if p.1 = x then (p.1, i) else p).1 = p.1
  split <;> rfl
/-- a dict copied pair by pair, no key twice -/
theorem copy_putN : ∀ (n m : Env), ((m ++ n).map (·.1)).Nodup → n.foldl (fun a p => putN a p.1 p.2) m = m ++ n
  | [], m, _ => by simp
  | p :: n, m, h => by
    have no : p.1 ∉ m.map (·.1) := by
      intro z
      rw [List.map_append, List.map_cons] at h
      exact (List.nodup_append.mp h).2.2 p.1 z p.1 List.mem_cons_self rfl
    rw [List.foldl_cons, putN_new _ no]
    have := copy_putN n (m ++ [(p.1, p.2)]) (by simpa using h)
    rw [this]
    simp
/-! ### statements -/
inductive Tg | par | self | child (e : Ex)
def tgD : Tg → PyData
  | .par => .tuple [.str "parent"]
  | .self => .tuple [.str "self"]
  | .child e => .tuple [.str "child", exD e]
inductive St
  | set (x : Str) (e : Ex) | iff (e : Ex) (a b : List St) | rep (e : Ex) (a : List St) | send (t : Tg) (m : Str) (as : List Ex) | spawn (k : Str) (as : List Ex) (x : Str) | call (f : Str) (as : List Ex) (m : Option Str) | stop | fail
def oS : Option Str → PyData
  | none => .none
  | some s => .str s
mutual
def stD : St → PyData
  | .set x e => .tuple [.str "set", .str x, exD e]
  | .iff e a b => .tuple [.str "if", exD e, .list (bdD a), .list (bdD b)]
  | .rep e a => .tuple [.str "repeat", exD e, .list (bdD a)]
  | .send t m as => .tuple [.str "send", tgD t, .str m, .list (as.map exD)]
  | .spawn k as x => .tuple [.str "spawn", .str k, .list (as.map exD), .str x]
  | .call f as m => .tuple [.str "call", .str f, .list (as.map exD), oS m]
  | .stop => .tuple [.str "stop"]
  | .fail => .tuple [.str "fail"]
def bdD : List St → List PyData
  | [] => []
  | s :: r => stD s :: bdD r
end
theorem bdD_at : ∀ {b : List St} {i : Nat}, (bdD b)[i]? = (b[i]?).map stD
  | [], _ => by simp [bdD]
  | s :: r, 0 => by simp [bdD]
  | s :: r, i + 1 => by simp only [bdD, List.getElem?_cons_succ]; exact bdD_at
theorem bdD_length : ∀ b : List St, (bdD b).length = b.length
  | [] => rfl
  | s :: r => by simp [bdD, bdD_length r]
mutual
def St.dep : St → Nat
  | .iff _ a b => max (bDep a) (bDep b) + 1
  | .rep _ a => bDep a + 1
  | _ => 0
def bDep : List St → Nat
  | [] => 0
  | s :: r => max s.dep (bDep r)
end
inductive Tv | par | self | child (i : Int)
inductive Dd | send (t : Tv) (m : Str) (as : List Int) | spawn (k : Str) (as : List Int) | call (f : Str) (as : List Int) (m : Option Str)
def tvD : Tv → PyData
  | .par => .tuple [.str "parent"]
  | .self => .tuple [.str "self"]
  | .child i => .tuple [.str "child", .int i]
def inD (as : List Int) : PyData := .tuple (as.map PyData.int)
def ddD : Dd → PyData
  | .send t m as => .tuple [.str "send", tvD t, .str m, inD as]
  | .spawn k as => .tuple [.str "spawn", .str k, inD as]
  | .call f as m => .tuple [.str "call", .str f, inD as, oS m]
structure Rs where
  nv : Nm
  sp : Int
  dd : List Dd
/-- how a row of statements ends -/
inductive Rr | go (r : Rs) | stop (r : Rs) | bad (r : Rs) (why : Str)
def evs (f : Nm) : List Ex → Er (List Int)
  | [] => .ok []
  | e :: r => (ev f e).bind fun v => (evs f r).bind fun vs => .ok (v :: vs)
def tgt (f : Nm) : Tg → Er Tv
  | .par => .ok .par
  | .self => .ok .self
  | .child e => (ev f e).bind fun v => .ok (.child v)
def addD (s : Rs) (d : Dd) (k : Rs → Rs) : Rr := if s.dd.length = 60 then .bad s "deeds" else .go (k { s with dd := s.dd ++ [d] })
def Er.rr {α : Type} (s : Rs) : Er α → (α → Rr) → Rr
  | .ok a, k => k a
  | .bad r, _ => .bad s r
def iter (f : Rs → Rr) : Nat → Rs → Rr
  | 0, s => .go s
  | n + 1, s => match f s with
    | .go t => iter f n t
    | x => x
mutual
def runS : St → Rs → Rr
  | .set x e, s => (ev s.nv e).rr s fun v => .go { s with nv := upN s.nv x v }
  | .iff e a b, s => (ev s.nv e).rr s fun v => if v ≠ 0 then runL a s else runL b s
  | .rep e a, s => (ev s.nv e).rr s fun v => if 0 ≤ v ∧ v ≤ 20 then iter (runL a) v.toNat s else .bad s "count"
  | .send t m as, s => (tgt s.nv t).rr s fun t => (evs s.nv as).rr s fun vs => addD s (.send t m vs) id
  | .spawn k as x, s => (evs s.nv as).rr s fun vs => addD s (.spawn k vs) fun s => { s with nv := upN s.nv x s.sp, sp := s.sp + 1 }
  | .call f as m, s => (evs s.nv as).rr s fun vs => addD s (.call f vs m) id
  | .stop, s => .stop s
  | .fail, s => .bad s "fail"
def runL : List St → Rs → Rr
  | [], s => .go s
  | x :: r, s => match runS x s with
    | .go t => runL r t
    | z => z
end
end Rk
/-! retroact.values: the walks. -/
namespace Rk
open PySem PySem.Spec PyProof.Rows L2
section
variable {K : PySem.W.Frag} {mg : Str → Option Value} {P : Program} {w : World} {base : Heap}
theorem dI {i j : Int} : decide (V.int i = V.int j) = decide (i = j) := by
  by_cases e : i = j
  · rw [e]; simp
  · rw [decide_eq_false e, decide_eq_false fun z => e (V.int.inj z)]
theorem comb_over0 {a b : Int} (z : b = 0) : comb .over a b = .bad "zero" := if_pos z
theorem comb_over {a b : Int} (z : ¬ b = 0) : comb .over a b = .ok (a.fdiv b) := if_neg z
theorem comb_rest0 {a b : Int} (z : b = 0) : comb .rest a b = .bad "zero" := if_pos z
theorem comb_rest {a b : Int} (z : ¬ b = 0) : comb .rest a b = .ok (a - b * a.fdiv b) := if_neg z
/-- a whole number comes back, or a Fault leaves -/
def ans (K : PySem.W.Frag) (r : Er Int) (H : Hp) (Q : VK) (E : XK) : Prop := match r with
  | .ok j => ∀ Ha, Kp [] H Ha → Q (.int j) Ha
  | .bad s => ∀ Ha dx, Kp [] H Ha → Ha dx = some (.xd [("reason", .str s)]) → E (.ref (He.ga K "Fault")) (some dx) Ha
def spChk (K : PySem.W.Frag) : Sp := fun vs H Q E => ∃ i, vs = [.int i] ∧ ans K (chk i) H Q E
theorem ok_checked (T : Tx K mg) : FnOk P w K mg base (L2N.CX P w) 3 (He.ga K "_checked") T.fd_checked P_checked (spChk K) := by
  obtain ⟨t1, h1⟩ := T.i_LEAST
  obtain ⟨t2, h2⟩ := T.i_GREATEST
  refine T.D_checked.ok sc_checked (fun vs H Q E h => by obtain ⟨i, rfl, _⟩ := h; rfl) fun cdv A outer s H vs Q E hr h => ⟨_, pss_cons (ps_if (pt_not (pt_chain op_le op_le (pe_glob (v := .int (-1000000000)) rfl h1 ⟨t1, rfl⟩) (pv 0) (pe_glob (v := .int 1000000000) rfl h2 ⟨t2, rfl⟩)))
    (pss_one (ps_raiseE T.e_Fault.oex T.e_Fault.init T.e_Fault.fn (ok_Fault_init T) hr T.b_Fault_init rfl rfl T.g_Fault (L2N.takes_of rfl rfl rfl rfl) pe_str)) pss_nil) (pss_one (ps_ret (pv 0))), ?_⟩
  obtain ⟨i, rfl, h⟩ := h
  refine ⟨_, rfl, _, _, rfl, rfl, _, rfl, ?_⟩
  have bad : ¬ Bv i → ∀ Hb dx, Kp [] H Hb → Hb dx = some (.xd [("reason", V.str "range")]) → E (.ref (He.ga K "Fault")) (some dx) Hb := fun n => by
    unfold chk at h
    rw [if_neg n] at h
    exact h
  by_cases h1 : -1000000000 ≤ i
  · refine iT (decide_eq_true h1) ⟨_, _, rfl, rfl, _, rfl, ?_⟩
    by_cases h2 : i ≤ 1000000000
    · refine iF (nT h2) ⟨_, rfl, ?_⟩
      unfold chk at h
      rw [if_pos ⟨h1, h2⟩] at h
      exact h H .refl
    · exact iT (nF h2) (bad fun b => h2 b.2)
  · refine iF (decide_eq_false h1) ⟨_, rfl, ?_⟩
    exact iT rfl (bad fun b => h1 b.1)
def spComb (K : PySem.W.Frag) : Sp := fun vs H Q E => ∃ o a b, vs = [.str o.s, .int a, .int b] ∧ o ≠ .and ∧ o ≠ .or ∧ Bv a ∧ Bv b ∧ ans K (comb o a b) H Q E
theorem ok_combined (T : Tx K mg) : FnOk P w K mg base (L2N.CX P w) 3 (He.ga K "_combined") T.fd_combined P_combined (spComb K) := by
  refine T.D_combined.ok sc_combined (fun vs H Q E h => by obtain ⟨o, a, b, rfl, _⟩ := h; rfl) fun cdv A outer s H vs Q E hr h => ⟨_, (pss_cons (ps_if (pt_cmpR op_eq (pv 0) pe_str (nomark _))
    (pss_one (ps_ret (pe_op op_add (pv 1) (pv 2))))
    pss_nil)
    (pss_cons (ps_if (pt_cmpR op_eq (pv 0) pe_str (nomark _))
    (pss_one (ps_ret (pe_op op_sub (pv 1) (pv 2))))
    pss_nil)
    (pss_cons (ps_if (pt_cmpR op_eq (pv 0) pe_str (nomark _))
    (pss_one (ps_ret (pe_op op_mul (pv 1) (pv 2))))
    pss_nil)
    (pss_cons (ps_if (pt_cmpR op_eq (pv 0) pe_str (nomark _))
    (pss_one (ps_ret (pe_callTy call_int1 (by rfl) T.f_int (by decide +kernel) (pa_cons (pe_cmpR op_lt (pv 1) (pv 2) (nomark _)) pa_nil))))
    pss_nil)
    (pss_cons (ps_if (pt_cmpR op_eq (pv 0) pe_str (nomark _))
    (pss_one (ps_ret (pe_callTy call_int1 (by rfl) T.f_int (by decide +kernel) (pa_cons (pe_cmpR op_le (pv 1) (pv 2) (nomark _)) pa_nil))))
    pss_nil)
    (pss_cons (ps_if (pt_cmpR op_eq (pv 0) pe_str (nomark _))
    (pss_one (ps_ret (pe_callTy call_int1 (by rfl) T.f_int (by decide +kernel) (pa_cons (pe_cmpR op_eq (pv 1) (pv 2) (nomark _)) pa_nil))))
    pss_nil)
    (pss_cons (ps_if (pt_cmpR op_eq (pv 2) pe_int (nomark _))
    (pss_one (ps_raiseE T.e_Fault.oex T.e_Fault.init T.e_Fault.fn (ok_Fault_init T) (hr.mono (by decide)) T.b_Fault_init rfl rfl T.g_Fault (L2N.takes_of rfl rfl rfl rfl) pe_str))
    pss_nil)
    (pss_cons (ps_if (pt_cmpR op_eq (pv 0) pe_str (nomark _))
    (pss_one (ps_ret (pe_op op_fdivN (pv 1) (pv 2))))
    pss_nil)
    (pss_one (ps_ret (pe_op op_sub (pv 1) (pe_op op_mul (pv 2) (pe_op op_fdivN (pv 1) (pv 2)))))))))))))), ?_⟩
  obtain ⟨o, a, b, rfl, n1, n2, ba, bb, h⟩ := h
  have mulOk : CMul a b := .inl ⟨by have := ba.1; omega, by have := ba.2; omega⟩
  have divOk : b ≠ 0 → CDivN a b := fun z => ⟨z, by have := bb.1; have := bb.2; omega⟩
  cases o
  case and => exact absurd rfl n1
  case or => exact absurd rfl n2
  case plus => exact ⟨_, rfl, rfl, _, rfl, iT rfl ⟨_, rfl, _, rfl, _, _, rfl, rfl, h _ .refl⟩⟩
  case minus =>
    iterate 1 refine ⟨_, rfl, rfl, _, rfl, iF rfl ?_⟩
    exact ⟨_, rfl, rfl, _, rfl, iT rfl ⟨_, rfl, _, rfl, _, _, rfl, rfl, h _ .refl⟩⟩
  case times =>
    iterate 2 refine ⟨_, rfl, rfl, _, rfl, iF rfl ?_⟩
    exact ⟨_, rfl, rfl, _, rfl, iT rfl ⟨_, rfl, _, rfl, _, _, rfl, rfl, mulOk, h _ .refl⟩⟩
  case less =>
    iterate 3 refine ⟨_, rfl, rfl, _, rfl, iF rfl ?_⟩
    exact ⟨_, rfl, rfl, _, rfl, iT rfl ⟨_, rfl, _, rfl, _, _, rfl, rfl, .inr ⟨_, rfl, h _ .refl⟩⟩⟩
  case atmost =>
    iterate 4 refine ⟨_, rfl, rfl, _, rfl, iF rfl ?_⟩
    exact ⟨_, rfl, rfl, _, rfl, iT rfl ⟨_, rfl, _, rfl, _, _, rfl, rfl, .inr ⟨_, rfl, h _ .refl⟩⟩⟩
  case same =>
    iterate 5 refine ⟨_, rfl, rfl, _, rfl, iF rfl ?_⟩
    refine ⟨_, rfl, rfl, _, rfl, iT rfl ⟨_, rfl, _, rfl, rfl, .inr ⟨_, rfl, ?_⟩⟩⟩
    rw [dI]
    exact h _ .refl
  case over =>
    iterate 6 refine ⟨_, rfl, rfl, _, rfl, iF rfl ?_⟩
    refine ⟨_, rfl, rfl, _, rfl, ?_⟩
    rw [dI]
    by_cases z : b = 0
    · refine iT (decide_eq_true z) fun Hb dx k e => ?_
      rw [comb_over0 z] at h
      exact h Hb dx k e
    · refine iF (decide_eq_false z) ⟨_, rfl, rfl, _, rfl, iT rfl ⟨_, rfl, _, rfl, _, _, rfl, rfl, divOk z, ?_⟩⟩
      rw [comb_over z] at h
      exact h _ .refl
  case rest =>
    iterate 6 refine ⟨_, rfl, rfl, _, rfl, iF rfl ?_⟩
    refine ⟨_, rfl, rfl, _, rfl, ?_⟩
    rw [dI]
    by_cases z : b = 0
    · refine iT (decide_eq_true z) fun Hb dx k e => ?_
      rw [comb_rest0 z] at h
      exact h Hb dx k e
    · refine iF (decide_eq_false z) ⟨_, rfl, rfl, _, rfl, iF rfl ⟨_, rfl, _, rfl, _, rfl, _, rfl, _, _, rfl, rfl, divOk z, _, _, rfl, rfl, .inl ⟨by have := bb.1; omega, by have := bb.2; omega⟩, _, _, rfl, rfl, ?_⟩⟩
      rw [comb_rest z] at h
      exact h _ .refl
theorem ans.mono {r : Er Int} {H Ha : Hp} {Q : VK} {E : XK} (k : Kp [] H Ha) (h : ans K r H Q E) : ans K r Ha Q E := by
  cases r with
  | ok j => exact fun Hb kb => h Hb (k.trans kb)
  | bad s => exact fun Hb dx kb e => h Hb dx (k.trans kb) e
theorem ans.of {r : Er Int} {H : Hp} {Q : VK} {E : XK} (h1 : ∀ j, r = .ok j → ∀ Ha, Kp [] H Ha → Q (.int j) Ha) (h2 : ∀ s, r = .bad s → ∀ Ha dx, Kp [] H Ha → Ha dx = some (.xd [("reason", .str s)]) → E (.ref (He.ga K "Fault")) (some dx) Ha) : ans K r H Q E := by
  cases r with
  | ok j => exact h1 j rfl
  | bad s => exact h2 s rfl
/-- the sub-reckoning first -/
theorem ans.seq {r : Er Int} {g : Int → Er Int} {H : Hp} {Q R : VK} {E : XK} (h : ans K (r.bind g) H Q E) (h1 : ∀ j, r = .ok j → ∀ Ha, Kp [] H Ha → ans K (g j) Ha Q E → R (.int j) Ha) : ans K r H R E := by
  cases r with
  | ok j => exact fun Ha k => h1 j rfl Ha k (ans.mono k h)
  | bad s => exact h
theorem Kp.rd {H Ha : Hp} {a : Addr} {u : HO} (k : Kp [] H Ha) (r : Rd H a u) : Rd Ha a u := r.elim (fun e => .inl (k.same _ _ e)) fun ⟨o, e⟩ => .inr ⟨o, k.same _ _ e⟩
/-- a dict of names: what it holds for a text -/
def NmAt (H : Hp) (d : Addr) (f : Nm) : Prop := ∃ kvs, Rd H d (.dK kvs) ∧ ∀ x, valV kvs (.inr x) = (f x).map V.int
theorem NmAt.mono {H Ha : Hp} {d : Addr} {f : Nm} (k : Kp [] H Ha) (h : NmAt H d f) : NmAt Ha d f := let ⟨kvs, r, q⟩ := h; ⟨kvs, k.rd r, q⟩
theorem NmAt.get {H : Hp} {d : Addr} {f : Nm} {x : Str} {i : Int} (h : NmAt H d f) (e : f x = some i) : DGet H d (.str x) (some (.int i)) := let ⟨kvs, r, q⟩ := h; .inl ⟨kvs, .inr x, r, rfl, by rw [q, e]; rfl⟩
theorem fn_none {sp : Sp} {k : Nat} {f : Addr} {fd : FuncData} {ps : List Str} (h : ∀ vs H Q E, ¬ sp vs H Q E) : FnOk P w K mg base (L2N.CX P w) k f fd ps sp := ⟨fun vs H Q E q => absurd q (h vs H Q E), fun _ _ _ _ _ _ _ _ _ _ _ _ _ q => absurd q (h _ _ _ _)⟩
theorem op_ne_word (o : Op) : decide (V.str o.s = V.str "number") = false ∧ decide (V.str o.s = V.str "name") = false ∧ decide (V.str o.s = V.str "negative") = false ∧ decide (V.str o.s = V.str "not") = false := by
  cases o <;> exact ⟨rfl, rfl, rfl, rfl⟩
theorem op_and_word {o : Op} (h : o ≠ .and) : decide (V.str o.s = V.str "and") = false := by cases o <;> first | rfl | exact absurd rfl h
theorem op_or_word {o : Op} (h : o ≠ .or) : decide (V.str o.s = V.str "or") = false := by cases o <;> first | rfl | exact absurd rfl h
theorem bi_ne (y : Int) : (if (!decide (V.int y = V.int 0)) = true then (1 : Int) else 0) = bi (decide (y ≠ 0)) := by
  rw [dI]
  by_cases z : y = 0
  · rw [nT z, if_neg Bool.false_ne_true, decide_eq_false (fun n => n z)]; rfl
  · rw [nF z, if_pos rfl, decide_eq_true z]; rfl
def spEval (K : PySem.W.Frag) (n : Nat) : Sp := fun vs H Q E => ∃ v e d f, vs = [v, .ref d] ∧ Di H v (exD e) ∧ e.dep < n ∧ NmAt H d f ∧ e.all (fun x => (f x).isSome = true) ∧ BNm f ∧ ans K (ev f e) H Q E
theorem ok_evaluate (T : Tx K mg) : ∀ n, FnOk P w K mg base (L2N.CX P w) (3 + n) (He.ga K "evaluate") T.fd_evaluate P_evaluate (spEval K n)
  | 0 => fn_none fun _ _ _ _ ⟨_, _, _, _, _, _, h, _⟩ => Nat.not_lt_zero _ h
  | n + 1 => by
    have ih := ok_evaluate T n
    refine T.D_evaluate.ok sc_evaluate (fun vs H Q E h => by obtain ⟨v, e, d, f, rfl, _⟩ := h; rfl) fun cdv A outer s H vs Q E hr h => ⟨_, (pss_cons (ps_set (i := 2) sc_evaluate.nd rfl (.inl rfl) (pe_ti (pv 0)))
    (pss_cons (ps_if (pt_cmpR op_eq (pv 2) pe_str (nomark _))
    (pss_one (ps_ret (pe_callS (ok_checked T) (hr.mono (Nat.le_add_right 3 n)) rfl T.g__checked T.p_checked T.b_checked (fun σ => L2N.passAt (L2N.takes_of rfl rfl rfl rfl) σ) (pa_cons (pe_ti (pv 0)) pa_nil))))
    pss_nil)
    (pss_cons (ps_if (pt_cmpR op_eq (pv 2) pe_str (nomark _))
    (pss_one (ps_ret (pe_dget (hu_of hr) (pv 1) (pe_ti (pv 0)) (fun _ _ => rfl))))
    pss_nil)
    (pss_cons (ps_set (i := 3) sc_evaluate.nd rfl (.inl rfl) (pe_callS ih hr rfl T.g_evaluate T.p_evaluate T.b_evaluate (fun σ => L2N.passAt (L2N.takes_of rfl rfl rfl rfl) σ) (pa_cons (pe_ti (pv 0)) (pa_cons (pv 1) pa_nil))))
    (pss_cons (ps_if (pt_cmpR op_eq (pv 2) pe_str (nomark _))
    (pss_one (ps_ret (pe_callS (ok_checked T) (hr.mono (Nat.le_add_right 3 n)) rfl T.g__checked T.p_checked T.b_checked (fun σ => L2N.passAt (L2N.takes_of rfl rfl rfl rfl) σ) (pa_cons (pe_un un_neg (pv 3)) pa_nil))))
    pss_nil)
    (pss_cons (ps_if (pt_cmpR op_eq (pv 2) pe_str (nomark _))
    (pss_one (ps_ret (pe_callTy call_int1 (by rfl) T.f_int (by decide +kernel) (pa_cons (pe_cmpR op_eq (pv 3) pe_int (nomark _)) pa_nil))))
    pss_nil)
    (pss_cons (ps_if (PW.pt (pw_and (pt_cmpR op_eq (pv 2) pe_str (nomark _)) (pw_and1 (pt_cmpR op_eq (pv 3) pe_int (nomark _)))))
    (pss_one (ps_ret pe_int))
    pss_nil)
    (pss_cons (ps_if (PW.pt (pw_and (pt_cmpR op_eq (pv 2) pe_str (nomark _)) (pw_and1 (pt_cmpR op_ne (pv 3) pe_int (nomark _)))))
    (pss_one (ps_ret pe_int))
    pss_nil)
    (pss_cons (ps_set (i := 4) sc_evaluate.nd rfl (.inl rfl) (pe_callS ih hr rfl T.g_evaluate T.p_evaluate T.b_evaluate (fun σ => L2N.passAt (L2N.takes_of rfl rfl rfl rfl) σ) (pa_cons (pe_ti (pv 0)) (pa_cons (pv 1) pa_nil))))
    (pss_cons (ps_if (pt_cmpR op_in_seq (pv 2) (pe_tup (pa_cons pe_str (pa_cons pe_str pa_nil))) (by rfl))
    (pss_one (ps_ret (pe_callTy call_int1 (by rfl) T.f_int (by decide +kernel) (pa_cons (pe_cmpR op_ne (pv 4) pe_int (nomark _)) pa_nil))))
    pss_nil)
    (pss_one (ps_ret (pe_callS (ok_checked T) (hr.mono (Nat.le_add_right 3 n)) rfl T.g__checked T.p_checked T.b_checked (fun σ => L2N.passAt (L2N.takes_of rfl rfl rfl rfl) σ) (pa_cons (pe_callS (ok_combined T) (hr.mono (Nat.le_add_right 3 n)) rfl T.g__combined T.p_combined T.b_combined (fun σ => L2N.passAt (L2N.takes_of rfl rfl rfl rfl) σ) (pa_cons (pv 2) (pa_cons (pv 3) (pa_cons (pv 4) pa_nil)))) pa_nil)))))))))))))), ?_⟩
    obtain ⟨v, e, d, f, rfl, di, dep, nm, all, bnm, h⟩ := h
    cases e with
    | num i =>
      obtain ⟨p, x, y, rfl, ep, dx, dy⟩ := di.inv2
      cases dx.inv_str
      cases dy.inv_int
      exact ⟨_, rfl, _, _, _, rfl, ep, rfl, _, rfl, rfl, _, rfl, iT rfl ⟨_, rfl, _, _, _, rfl, ep, rfl, i, rfl, h⟩⟩
    | nam x =>
      obtain ⟨p, x', y, rfl, ep, dx, dy⟩ := di.inv2
      cases dx.inv_str
      cases dy.inv_str
      obtain ⟨i, hi⟩ := Option.isSome_iff_exists.mp all
      refine ⟨_, rfl, _, _, _, rfl, ep, rfl, _, rfl, rfl, _, rfl, iF rfl ⟨_, rfl, rfl, _, rfl, iT rfl ⟨_, rfl, _, rfl, _, _, _, rfl, ep, rfl, d, _, rfl, nm.get hi, ?_⟩⟩⟩
      have q : ans K (.ok ((f x).getD 0)) H Q E := h
      rw [hi] at q
      exact q H .refl
    | neg e =>
      obtain ⟨p, x', y, rfl, ep, dx, dy⟩ := di.inv2
      cases dx.inv_str
      refine ⟨_, rfl, _, _, _, rfl, ep, rfl, _, rfl, rfl, _, rfl, iF rfl ⟨_, rfl, rfl, _, rfl, iF rfl ⟨_, rfl, _, _, _, rfl, ep, rfl, _, rfl, _, e, d, f, rfl, dy, Nat.lt_of_succ_lt_succ dep, nm, all, bnm, ans.seq h fun j ej Ha ka qa => ?_⟩⟩⟩
      exact ⟨_, rfl, rfl, _, rfl, iT rfl ⟨_, rfl, _, rfl, _, rfl, qa⟩⟩
    | nt e =>
      obtain ⟨p, x', y, rfl, ep, dx, dy⟩ := di.inv2
      cases dx.inv_str
      refine ⟨_, rfl, _, _, _, rfl, ep, rfl, _, rfl, rfl, _, rfl, iF rfl ⟨_, rfl, rfl, _, rfl, iF rfl ⟨_, rfl, _, _, _, rfl, ep, rfl, _, rfl, _, e, d, f, rfl, dy, Nat.lt_of_succ_lt_succ dep, nm, all, bnm, ans.seq h fun j ej Ha ka qa => ?_⟩⟩⟩
      refine ⟨_, rfl, rfl, _, rfl, iF rfl ⟨_, rfl, rfl, _, rfl, iT rfl ⟨_, rfl, rfl, .inr ⟨_, rfl, ?_⟩⟩⟩⟩
      rw [dI]
      exact qa Ha .refl
    | bin o a b =>
      obtain ⟨p, x', y, z, rfl, ep, dx, dy, dz⟩ := di.inv3
      cases dx.inv_str
      obtain ⟨w1, w2, w3, w4⟩ := op_ne_word o
      have da : a.dep < n := by
        have : max a.dep b.dep + 1 < n + 1 := dep
        omega
      have db : b.dep < n := by
        have : max a.dep b.dep + 1 < n + 1 := dep
        omega
      refine ⟨_, rfl, _, _, _, rfl, ep, rfl, _, rfl, rfl, _, rfl, iF w1 ⟨_, rfl, rfl, _, rfl, iF w2 ⟨_, rfl, _, _, _, rfl, ep, rfl, _, rfl, _, a, d, f, rfl, dy, da, nm, all.1, bnm, ans.seq h fun j ej Ha ka qa => ?_⟩⟩⟩
      refine ⟨_, rfl, rfl, _, rfl, iF w3 ⟨_, rfl, rfl, _, rfl, iF w4 ?_⟩⟩
      have nma := nm.mono ka
      have epa : Ha p = some (.tup [.str o.s, y, z]) := ka.tup _ _ ep
      have dza := dz.mono ka
      by_cases c1 : o = .and
      · subst c1
        refine ⟨_, rfl, rfl, _, rfl, iT rfl ⟨_, rfl, rfl, _, rfl, ?_⟩⟩
        rw [dI]
        by_cases z0 : j = 0
        · rw [if_pos ⟨rfl, z0⟩] at qa
          exact iT (decide_eq_true z0) (qa Ha .refl)
        · rw [if_neg (fun q => z0 q.2), if_neg (fun q => Op.noConfusion q.1)] at qa
          refine iF (decide_eq_false z0) ⟨_, rfl, rfl, _, rfl, iF rfl (iF rfl ⟨_, rfl, _, _, _, rfl, epa, rfl, _, rfl, _, b, d, f, rfl, dza, db, nma, all.2, bnm, ans.seq qa fun k ek Hb kb qb => ?_⟩)⟩
          rw [if_pos (.inl rfl)] at qb
          refine ⟨_, rfl, by show 2 ≤ sizeLine; decide, fun q nq => ⟨q, _, rfl, .inr (SqT.of upd_same), rfl, rfl, _, rfl, iT rfl ⟨_, rfl, rfl, .inr ⟨_, rfl, ?_⟩⟩⟩⟩
          rw [bi_ne]
          exact qb _ (Kp.refl.new nq)
      · by_cases c2 : o = .or
        · subst c2
          refine ⟨_, rfl, rfl, _, rfl, iF rfl (iF rfl ⟨_, rfl, rfl, _, rfl, iT rfl ⟨_, rfl, rfl, _, rfl, ?_⟩⟩)⟩
          rw [dI]
          by_cases z0 : j = 0
          · rw [if_neg (fun q => c1 q.1), if_neg (fun q => q.2 z0)] at qa
            refine iF (nT z0) ⟨_, rfl, _, _, _, rfl, epa, rfl, _, rfl, _, b, d, f, rfl, dza, db, nma, all.2, bnm, ans.seq qa fun k ek Hb kb qb => ?_⟩
            rw [if_pos (.inr rfl)] at qb
            refine ⟨_, rfl, by show 2 ≤ sizeLine; decide, fun q nq => ⟨q, _, rfl, .inr (SqT.of upd_same), rfl, rfl, _, rfl, iT rfl ⟨_, rfl, rfl, .inr ⟨_, rfl, ?_⟩⟩⟩⟩
            rw [bi_ne]
            exact qb _ (Kp.refl.new nq)
          · rw [if_neg (fun q => c1 q.1), if_pos ⟨rfl, z0⟩] at qa
            exact iT (nF z0) (qa Ha .refl)
        · rw [if_neg (fun q => c1 q.1), if_neg (fun q => c2 q.1)] at qa
          refine ⟨_, rfl, rfl, _, rfl, iF (op_and_word c1) (iF rfl ⟨_, rfl, rfl, _, rfl, iF (op_or_word c2) (iF rfl ⟨_, rfl, _, _, _, rfl, epa, rfl, _, rfl, _, b, d, f, rfl, dza, db, nma, all.2, bnm, ans.seq qa fun k ek Hb kb qb => ?_⟩)⟩)⟩
          rw [if_neg (fun q => q.elim c1 c2)] at qb
          have no : inV (V.str o.s) [.str "and", .str "or"] = false := by cases o <;> first | rfl | exact absurd rfl c1 | exact absurd rfl c2
          refine ⟨_, rfl, by show 2 ≤ sizeLine; decide, fun q nq => ⟨q, _, rfl, .inr (SqT.of upd_same), rfl, rfl, _, rfl, iF no ?_⟩⟩
          refine ⟨_, rfl, _, rfl, _, rfl, o, j, k, rfl, c1, c2, ev_Bv bnm ej, ev_Bv bnm ek, ans.seq (ans.mono (Kp.refl.new nq) qb) fun m em Hc kc qc => ?_⟩
          exact ⟨m, rfl, qc⟩
end
end Rk
/-! retroact.handlers: the reckoner, a run's parts. -/
namespace Rk
open PySem PySem.Spec PyProof.Rows L2
section
variable {X : Cx} {W : CXT} {lv : Nat} {g C : Addr} {fd : FuncData} {names : List Str} {pr : Sp} {E : L2.St → XK} {m : Str} {recv arg : Expr} {more : List Expr} {tr : TE} {ta : TA} {pa pos : Pos}
theorem getmeth_rd {pins : List (Addr × Obj)} {σ : L2.St} {H : Hp} {s : Shared} {A : Around} {F : Value → Shared → Prop} {a dx : Addr} {fs : List (Str × V)} {pl : Sem Bool} {Q : Value × List Value → Shared → Prop} (I : Inv X pins σ H s) (e : Rd H a (.ins C dx fs)) (c : Cls X.K C) (k : Meth X.K C m g) (l : fs.lookup m = none)
    (h : Q (.ref g, [.ref a]) s) : wpAny (model X.prog X.w) A (getMethod (.ref a) m pl) Q F s := by
  rcases e with e | ⟨o, e⟩
  · exact getmeth_ok I e c k l h
  · obtain ⟨mA, ob, r⟩ := frz_ins I e
    exact get_meth I.kIn ob (c.get m) k.at_ k.fn (RelO.none_of (by rw [← l]; exact r m)) h
/-- o.m(e, ..), o an instance that may be locked -/
def tMeR (C : Addr) (m : Str) (pr : Sp) (E : L2.St → XK) (tr : TE) (ta : TA) : TE := fun σ H Q =>
  tr σ H fun x Ha => ∃ (ad : Addr) (dx : Addr) (fs : List (Str × V)), x = .ref ad ∧ Rd Ha ad (.ins C dx fs) ∧ fs.lookup m = none ∧ ta σ Ha fun vs Hb => pr (x :: vs) Hb Q (E σ)
theorem pe_meR {pl : Sem Bool} (hr : PE X recv tr) (cl : Cls X.K C) (me : Meth X.K C m g) (fn : FnOk X.prog X.w X.K X.mg X.base W lv g fd names pr) (room : Room lv X.A) (bd : Binds X.K fd names [])
    (pass : ∀ σ, PassesAt W X σ (E σ)) (ha : PA X (arg :: more) ta)
    (st : starEach (arg :: more) X.env = (false, eval arg X.env) :: starEach more X.env := by rfl) (nos : (backTo pos (starEach more X.env)).any (·.1) = false := by rfl)
    (form : eval (.Call (.Attribute recv m pa) (arg :: more) [] pos) X.env = (do
      let rv ← eval recv X.env
      standAt pa.atName
      let (g, fst) ← holding [rv] (getMethod rv m pl)
      callWith pos g fst (backTo pos (starEach (arg :: more) X.env)) (backToKw pos (keywordEach [] X.env))) := by rfl) :
    PE X (.Call (.Attribute recv m pa) (arg :: more) [] pos) (tMeR C m pr E tr ta) := by
  refine ⟨fun pins s σ H Q I want => PySem.W.methodCall_KW (pl := pl) (thn (hr.run pins s σ H _ I want) fun u sa hu => ?_) form⟩
  obtain ⟨x, Ha, Ia, rx, ad, dx, fs, rfl, at_, no, wa⟩ := hu
  obtain rfl : u = Value.ref ad := rx
  refine getmeth_rd Ia at_ cl me no (PySem.W.callWith_K (first := [.ref ad]) (h₀ := X.base) Ia.ok.mod.kin me.kp (thn (ha.run pos pins sa σ Ha _ Ia wa) fun us sb hb => ?_) st nos)
  obtain ⟨vs, Hb, Ib, va, wb⟩ := hb
  refine ⟨Ib.kIn, run_fnSD (us := .ref ad :: us) (vs := .ref ad :: vs) (dvs := []) (ds := []) fn room bd .nil (pass σ) Ib (.cons rfl va) ?_⟩
  rw [List.append_nil]
  exact wb
theorem passAt0 {σ : L2.St} : PassesAt (L2N.CX X.prog X.w) X σ E0 := fun pins H s e s' I c => pass0 pins σ H s e s' I c
end
section
variable {K : PySem.W.Frag} {mg : Str → Option Value} {P : Program} {w : World} {base : Heap}
def spTrue : Sp := fun vs H Q _ => ∃ r i, vs = [r, .int i] ∧ Q (.bl (decide (i ≠ 0))) H
def spSame : Sp := fun vs H Q _ => ∃ r i, vs = [r, .int i] ∧ Q (.int i) H
def spRk (K : PySem.W.Frag) : Sp := fun vs H Q E => ∃ r v e d f, vs = [r, v, .ref d] ∧ Di H v (exD e) ∧ e.dep < 3 ∧ NmAt H d f ∧ e.all (fun x => (f x).isSome = true) ∧ BNm f ∧ ans K (ev f e) H Q E
theorem ok_Reckoner_reckon (T : Tx K mg) : FnOk P w K mg base (L2N.CX P w) 7 (He.ma K (He.ga K "Reckoner") "reckon") T.fd_Reckoner_reckon P_Reckoner_reckon (spRk K) := by
  refine T.D_Reckoner_reckon.ok sc_Reckoner_reckon (fun vs H Q E h => by obtain ⟨r, v, e, d, f, rfl, _⟩ := h; rfl) fun cdv A outer s H vs Q E hr h => ⟨_, (pss_one (ps_ret (pe_callS (ok_evaluate T 3) hr rfl T.g_evaluate T.p_evaluate T.b_evaluate (fun σ => L2N.passAt (L2N.takes_of rfl rfl rfl rfl) σ) (pa_cons (pv 1) (pa_cons (pv 2) pa_nil))))), ?_⟩
  obtain ⟨r, v, e, d, f, rfl, h⟩ := h
  exact ⟨_, rfl, _, rfl, v, e, d, f, rfl, h⟩
theorem ok_Reckoner_is_true (T : Tx K mg) : FnOk P w K mg base (L2N.CX P w) 1 (He.ma K (He.ga K "Reckoner") "is_true") T.fd_Reckoner_is_true P_Reckoner_is_true spTrue := by
  refine T.D_Reckoner_is_true.ok sc_Reckoner_is_true (fun vs H Q E h => by obtain ⟨r, i, rfl, _⟩ := h; rfl) fun cdv A outer s H vs Q E hr h => ⟨_, (pss_one (ps_ret (pe_cmpR op_ne (pv 1) pe_int (nomark _)))), ?_⟩
  obtain ⟨r, i, rfl, h⟩ := h
  refine ⟨_, rfl, rfl, ?_⟩
  rw [dI]
  by_cases z : i = 0
  · rw [nT z]; rwa [decide_eq_false fun n => n z] at h
  · rw [nF z]; rwa [decide_eq_true z] at h
theorem ok_Reckoner_whole (T : Tx K mg) : FnOk P w K mg base (L2N.CX P w) 1 (He.ma K (He.ga K "Reckoner") "whole") T.fd_Reckoner_whole P_Reckoner_whole spSame := by
  refine T.D_Reckoner_whole.ok sc_Reckoner_whole (fun vs H Q E h => by obtain ⟨r, i, rfl, _⟩ := h; rfl) fun cdv A outer s H vs Q E hr h => ⟨_, (pss_one (ps_ret (pv 1))), ?_⟩
  obtain ⟨r, i, rfl, h⟩ := h
  exact ⟨_, rfl, h⟩
theorem ok_Reckoner_told (T : Tx K mg) : FnOk P w K mg base (L2N.CX P w) 1 (He.ma K (He.ga K "Reckoner") "told") T.fd_Reckoner_told P_Reckoner_told spSame := by
  refine T.D_Reckoner_told.ok sc_Reckoner_told (fun vs H Q E h => by obtain ⟨r, i, rfl, _⟩ := h; rfl) fun cdv A outer s H vs Q E hr h => ⟨_, (pss_one (ps_ret (pv 1))), ?_⟩
  obtain ⟨r, i, rfl, h⟩ := h
  exact ⟨_, rfl, h⟩
/-! ### a run -/
abbrev runF (d : Addr) (sp : Int) (k l : Addr) : List (Str × V) := [("names", .ref d), ("spawned", .int sp), ("reckoner", .ref k), ("deeds", .ref l)]
structure RunAt (K : PySem.W.Frag) (H : Hp) (r d l : Addr) (s : Rs) : Prop where
  run : ∃ dx k od dk, H r = some (.ins (He.ga K "Run") dx (runF d s.sp k l)) ∧ H k = some (.frz od (.ins (He.ga K "Reckoner") dk []))
  nam : ∃ kvs, H d = some (.dK kvs) ∧ (∀ x, valV kvs (.inr x) = (s.nv x).map V.int) ∧ kvs.length ≤ 100000
  dds : ∃ xs, H l = some (.lst xs) ∧ Dl H xs (s.dd.map ddD)
theorem RunAt.mono {H Ha : Hp} {r d l : Addr} {s : Rs} (h : RunAt K H r d l s) (k : Kp [] H Ha) : RunAt K Ha r d l s := by
  obtain ⟨⟨dx, q, od, dk, e1, e2⟩, ⟨kvs, e3, e4, e5⟩, ⟨xs, e6, e7⟩⟩ := h
  exact ⟨⟨dx, q, od, dk, k.same _ _ e1, k.frz _ _ _ e2⟩, ⟨kvs, k.same _ _ e3, e4, e5⟩, ⟨xs, k.same _ _ e6, e7.mono k⟩⟩
theorem RunAt.nm {H : Hp} {r d l : Addr} {s : Rs} (h : RunAt K H r d l s) : NmAt H d s.nv := let ⟨kvs, e, q, _⟩ := h.nam; ⟨kvs, .inl e, q⟩
/-- what an expression must be, over the names D -/
def eOk (D : Str → Prop) (e : Ex) : Prop := e.all D ∧ e.dep < 3
structure RsOk (D : Str → Prop) (s : Rs) : Prop where
  bnm : BNm s.nv
  dom : ∀ x, D x → (s.nv x).isSome = true
  sp0 : 0 ≤ s.sp
  sp1 : s.sp ≤ 100000000 + s.dd.length
  few : s.dd.length ≤ 60
def spRun (K : PySem.W.Frag) : Sp := fun vs H Q _ => ∃ r dx d sp k od dk, vs = [.ref r, .ref d, .int sp, .ref k] ∧ H r = some (.ins (He.ga K "Run") dx []) ∧ H k = some (.frz od (.ins (He.ga K "Reckoner") dk [])) ∧
  ∀ Ha l, Kp [r] H Ha → Ha r = some (.ins (He.ga K "Run") dx (runF d sp k l)) → Ha l = some (.lst []) → H l = none → Q .non Ha
theorem ok_Run_init (T : Tx K mg) : FnOk P w K mg base (L2N.CX P w) 1 (He.ma K (He.ga K "Run") "__init__") T.fd_Run_init P_Run_init (spRun K) := by
  refine T.D_Run_init.ok sc_Run_init (fun vs H Q E h => by obtain ⟨r, dx, d, sp, k, od, dk, rfl, _⟩ := h; rfl) fun cdv A outer s H vs Q E hr h => ⟨_, (pss_cons (ps_fe T.c_Run T.n_Run_names (pv 0) (pv 1))
    (pss_cons (ps_fe T.c_Run T.n_Run_spawned (pv 0) (pv 2))
    (pss_cons (ps_fe T.c_Run T.n_Run_reckoner (pv 0) (pv 3))
    (pss_one (ps_fe T.c_Run T.n_Run_deeds (pv 0) (pe_lst pa_nil)))))), ?_⟩
  obtain ⟨r, dx, d, sp, k, od, dk, rfl, e, ek, q⟩ := h
  refine ⟨_, rfl, _, rfl, r, dx, _, rfl, e, (by decide : (0 : Nat) < 1000), _, rfl, _, rfl, r, dx, _, rfl, upd_same, (by decide : (1 : Nat) < 1000), _, rfl, _, rfl, r, dx, _, rfl, upd_same, (by decide : (2 : Nat) < 1000), Nat.zero_le _, fun l nl => ⟨_, rfl, r, dx, _, rfl, (upd_ne (ne_of_none upd_same nl)).trans upd_same, (by decide : (3 : Nat) < 1000), ?_⟩⟩
  have hl : l ≠ r := fun z => by rw [z, upd_same] at nl; cases nl
  rw [upd_ne hl, upd_ne hl, upd_ne hl] at nl
  refine q _ l ?_ upd_same ?_ nl
  · have m : r ∈ [r] := List.mem_cons_self
    refine (((((Kp.refl (L := [r]) (H := H)).wr m e).wr m upd_same).wr m upd_same).own nl).wr m ((upd_ne (Ne.symm hl)).trans upd_same)
  · rw [upd_ne hl, upd_same]
def spRec (K : PySem.W.Frag) : Sp := fun vs H Q E => ∃ r d l s v e, vs = [.ref r, v] ∧ Di H v (exD e) ∧ RunAt K H r d l s ∧ eOk (fun x => (s.nv x).isSome = true) e ∧ BNm s.nv ∧ ans K (ev s.nv e) H Q E
theorem ok_Run_reckon (T : Tx K mg) : FnOk P w K mg base (L2N.CX P w) 8 (He.ma K (He.ga K "Run") "reckon") T.fd_Run_reckon P_Run_reckon (spRec K) := by
  refine T.D_Run_reckon.ok sc_Run_reckon (fun vs H Q E h => by obtain ⟨r, d, l, s, v, e, rfl, _⟩ := h; rfl) fun cdv A outer s H vs Q E hr h => ⟨_, (pss_one (ps_ret (pe_meR (pe_fe T.c_Run T.n_Run_reckoner (pv 0)) T.c_Reckoner T.m_Reckoner_reckon (ok_Reckoner_reckon T) (hr.mono (by decide)) T.b_Reckoner_reckon (fun σ => L2N.passAt (L2N.takes_of rfl rfl rfl rfl) σ) (pa_cons (pv 1) (pa_cons (pe_fe T.c_Run T.n_Run_names (pv 0)) pa_nil))))), ?_⟩
  obtain ⟨r, d, l, st, v, e, rfl, di, ra, eo, bn, h⟩ := h
  obtain ⟨dx, k, od, dk, er, ek⟩ := ra.run
  exact ⟨_, rfl, r, dx, _, _, rfl, er, rfl, k, dk, _, rfl, .inr ⟨od, ek⟩, rfl, _, rfl, _, rfl, r, dx, _, _, rfl, er, rfl, _, v, e, d, st.nv, rfl, di, eo.2, ra.nm, eo.1, bn, h⟩
/-- a tuple of whole numbers comes back, or a Fault leaves -/
def ansL (K : PySem.W.Frag) (r : Er (List Int)) (H : Hp) (Q : VK) (E : XK) : Prop := match r with
  | .ok js => ∀ Ha p, Kp [] H Ha → Ha p = some (.tup (js.map V.int)) → Q (.ref p) Ha
  | .bad s => ∀ Ha dx, Kp [] H Ha → Ha dx = some (.xd [("reason", .str s)]) → E (.ref (He.ga K "Fault")) (some dx) Ha
def spAll (K : PySem.W.Frag) : Sp := fun vs H Q E => ∃ r d l s v es, vs = [.ref r, v] ∧ Di H v (.list (es.map exD)) ∧ RunAt K H r d l s ∧ (∀ e ∈ es, eOk (fun x => (s.nv x).isSome = true) e) ∧ BNm s.nv ∧ es.length ≤ 10 ∧ ansL K (evs s.nv es) H Q E
end
end Rk
/-! retroact.handlers: reckon_all. -/
namespace Rk
open PySem PySem.Spec PyProof.Rows L2
theorem lcR_list {K : PySem.W.Frag} {a : Addr} {xs : List V} {g : TG} {te : TE} {own : List Nat} {σ : L2.St} {Ha : Hp} {D : Addr} {Qd : Hp → Prop} (Pv : Nat → Hp → Prop) (h0 : Pv 0 (upd Ha D (.lst []))) (hl : ∀ i H, i ≤ xs.length → Pv i H → SqL K H a xs)
    (hs : ∀ i x H, xs[i]? = some x → Pv i H → g x (wipe σ own) H fun σb Hd => wipe σb own = wipe σ own ∧ te σb Hd fun y He => ∃ acc, He D = some (.lst acc) ∧ acc.length < sizeLine ∧ Pv (i + 1) (upd He D (.lst (acc ++ [y])))) (hd : ∀ H, Pv xs.length H → Qd H) :
    ∃ W : Nat → Nat → Hp → Prop, (∃ m, W 0 m (upd Ha D (.lst []))) ∧ ∀ i m Hb, W i m Hb → ((Itl K a).stop i Hb ∧ Qd Hb) ∨ ((Itl K a).go i Hb ∧ ∃ Nx : Hp → Prop, (∀ Hz, Nx Hz → ∃ k, k < m ∧ W (i + 1) k Hz) ∧
      ∀ x Hz, (Itl K a).yld i Hb x Hz → g x (wipe σ own) Hz fun σb Hd => wipe σb own = wipe σ own ∧ te σb Hd fun y He => ∃ acc, He D = some (.lst acc) ∧ acc.length < sizeLine ∧ Nx (upd He D (.lst (acc ++ [y])))) := by
  refine ⟨fun i m Hb => m = xs.length - i ∧ i ≤ xs.length ∧ Pv i Hb, ⟨xs.length, by simp, Nat.zero_le _, h0⟩, ?_⟩
  rintro i m Hb ⟨rfl, le, p⟩
  have sq := hl i Hb le p
  by_cases lt : i < xs.length
  · exact .inr ⟨⟨xs, xs[i], sq, by simp [lt]⟩, Pv (i + 1), fun Hz pz => ⟨xs.length - (i + 1), by omega, rfl, lt, pz⟩, fun x Hz ⟨e, y⟩ => by subst e; exact hs i x _ (y xs sq) p⟩
  · have e : i = xs.length := by omega
    subst e
    exact .inl ⟨⟨xs, sq, Nat.le_refl _⟩, hd Hb p⟩
theorem evs_step {f : Nm} : ∀ {es : List Ex} {i : Nat} {js : List Int} {e : Ex}, evs f (es.take i) = .ok js → es[i]? = some e → (∀ v, ev f e = .ok v → evs f (es.take (i + 1)) = .ok (js ++ [v])) ∧ (∀ s, ev f e = .bad s → evs f es = .bad s)
  | [], i, js, e, _, h => by simp at h
  | x :: es, 0, js, e, h, g => by
    simp only [List.getElem?_cons_zero] at g
    cases g
    have hj : ([] : List Int) = js := by simpa [evs] using h
    subst hj
    refine ⟨fun v hv => ?_, fun s hs => ?_⟩
    · simp [evs, hv, Er.bind]
    · simp [evs, hs, Er.bind]
  | x :: es, i + 1, js, e, h, g => by
    simp only [List.getElem?_cons_succ] at g
    rw [List.take_succ_cons] at h
    obtain ⟨v0, h0, h1⟩ := Er.bind_ok (show (ev f x).bind _ = _ from h)
    obtain ⟨vs, h2, h3⟩ := Er.bind_ok h1
    cases h3
    obtain ⟨a, b⟩ := evs_step h2 g
    refine ⟨fun v hv => ?_, fun s hs => ?_⟩
    · rw [List.take_succ_cons]
      show (ev f x).bind _ = _
      rw [h0]
      show (evs f (es.take (i + 1))).bind _ = _
      rw [a v hv]
      rfl
    · show (ev f x).bind _ = _
      rw [h0]
      show (evs f es).bind _ = _
      rw [b s hs]
      rfl
section
variable {K : PySem.W.Frag} {mg : Str → Option Value} {P : Program} {w : World} {base : Heap}
theorem ok_Run_reckon_all (T : Tx K mg) : FnOk P w K mg base (L2N.CX P w) 9 (He.ma K (He.ga K "Run") "reckon_all") T.fd_Run_reckon_all P_Run_reckon_all (spAll K) := by
  refine T.D_Run_reckon_all.ok sc_Run_reckon_all (fun vs H Q E h => by obtain ⟨r, d, l, s, v, es, rfl, _⟩ := h; rfl) fun cdv A outer s H vs Q E hr h => ⟨_, (pss_one (ps_ret (pe_callTy call_tuple_of (by rfl) T.f_tuple (by decide +kernel) (pa_cons (pe_lcR (own := [("expression", 2)]) (E := E) rfl sc_Run_reckon_all.nd rfl rfl (L2N.takes_of rfl rfl rfl rfl) (pi_list (pv 1)) (blkOk_by (own := [("expression", 2)]) (N := N_Run_reckon_all) (sc := defScope sRun_reckon_all) (by decide +kernel)) (fun _ _ _ _ _ => (pg_name (i := 2) sc_Run_reckon_all.nd rfl (.inl rfl))) (fun _ _ _ _ _ => (pe_meR (pv 0) T.c_Run T.m_Run_reckon (ok_Run_reckon T) hr T.b_Run_reckon (fun _ pins H s e s' I c => blkR_pass pins _ H s e s' I c) (pa_cons (pv 2) pa_nil)))) pa_nil)))), ?_⟩
  obtain ⟨r, d, l, st, v, es, rfl, di, ra, eo, bn, few, h⟩ := h
  obtain ⟨a, o, xs, rfl, ea, dl⟩ := di.inv_lst
  have len : xs.length = es.length := by rw [dl.length, List.length_map]
  refine ⟨_, rfl, a, rfl, ⟨xs, .inl (.inr ⟨o, ea⟩)⟩, fun D nD => lcR_list (xs := xs) (fun i Hb => Kp [] H Hb ∧ ∃ js, evs st.nv (es.take i) = .ok js ∧ js.length = i ∧ Hb D = some (.lst (js.map V.int))) ⟨Kp.refl.new nD, [], rfl, rfl, upd_same⟩ (fun i Hb _ p => .inl (.inr ⟨o, p.1.frz _ _ _ ea⟩)) (fun i x Hb hx ⟨kb, js, hj, lj, eD⟩ => ?_) fun Hb ⟨kb, js, hj, lj, eD⟩ => ?_⟩
  · obtain ⟨de, hde, dx⟩ := dl.at' hx
    rw [List.getElem?_map] at hde
    obtain ⟨e, he, rfl⟩ : ∃ e, es[i]? = some e ∧ exD e = de := by
      cases q : es[i]? with
      | none => rw [q] at hde; cases hde
      | some e => rw [q] at hde; exact ⟨e, rfl, Option.some.inj hde⟩
    have step := evs_step hj he
    obtain ⟨⟨dxx, k, od, dk, er, ek⟩, _, _⟩ := ra.mono kb
    refine ⟨rfl, _, rfl, r, dxx, _, rfl, .inl er, rfl, _, rfl, r, d, l, st, x, e, rfl, dx.mono kb, ra.mono kb, eo e (List.mem_of_getElem? he), bn, ans.of (fun j ej Hc kc => ?_) fun why ew Hc dx' kc ex => ?_⟩
    · refine ⟨js.map V.int, kc.same _ _ eD, by rw [List.length_map, sizeLine_eq]; have := (List.getElem?_eq_some_iff.mp he).1; omega, (kb.trans kc).own nD, js ++ [j], step.1 j ej, by rw [List.length_append, lj]; rfl, ?_⟩
      rw [upd_same, List.map_append]
      rfl
    · rw [step.2 why ew] at h
      exact h Hc dx' (kb.trans kc) ex
  · rw [len, List.take_length] at hj
    rw [hj] at h
    exact ⟨D, _, rfl, .inl ⟨SqL.of eD, fun p np => h _ p (kb.new np) upd_same⟩⟩
end
end Rk
/-! retroact.handlers: do_deed. -/
namespace Rk
open PySem PySem.Spec PyProof.Rows L2
section
variable {K : PySem.W.Frag} {mg : Str → Option Value} {P : Program} {w : World} {base : Heap}
/-- how a row of statements ends, in the heap -/
def rans (K : PySem.W.Frag) (H : Hp) (r d l : Addr) (res : Rr) (vg vs : V) (Q : VK) (E : XK) : Prop := match res with
  | .go t => ∀ Ha, Kp [r, d, l] H Ha → RunAt K Ha r d l t → Q vg Ha
  | .stop t => ∀ Ha, Kp [r, d, l] H Ha → RunAt K Ha r d l t → Q vs Ha
  | .bad _ why => ∀ Ha dx, Kp [r, d, l] H Ha → Ha dx = some (.xd [("reason", .str why)]) → E (.ref (He.ga K "Fault")) (some dx) Ha
theorem rans.mono {H Ha : Hp} {r d l : Addr} {res : Rr} {vg vs : V} {Q : VK} {E : XK} (k : Kp [r, d, l] H Ha) (h : rans K H r d l res vg vs Q E) : rans K Ha r d l res vg vs Q E := by
  cases res with
  | go t => exact fun Hb kb ra => h Hb (k.trans kb) ra
  | stop t => exact fun Hb kb ra => h Hb (k.trans kb) ra
  | bad t why => exact fun Hb dx kb e => h Hb dx (k.trans kb) e
/-- what a statement must be over the names D -/
def tOk (D : Str → Prop) : Tg → Prop
  | .child e => eOk D e
  | _ => True
mutual
def St.ok (D : Str → Prop) : St → Prop
  | .set x e => D x ∧ eOk D e
  | .iff e a b => eOk D e ∧ bOk D a ∧ bOk D b
  | .rep e a => eOk D e ∧ bOk D a
  | .send t _ as => tOk D t ∧ (∀ e ∈ as, eOk D e) ∧ as.length ≤ 10
  | .spawn _ as x => D x ∧ (∀ e ∈ as, eOk D e) ∧ as.length ≤ 10
  | .call _ as _ => (∀ e ∈ as, eOk D e) ∧ as.length ≤ 10
  | .stop | .fail => True
def bOk (D : Str → Prop) : List St → Prop
  | [] => True
  | s :: r => s.ok D ∧ bOk D r
end
theorem eOk.mono {D D' : Str → Prop} {e : Ex} (h : ∀ x, D x → D' x) (o : eOk D e) : eOk D' e := ⟨Ex.all_mono h o.1, o.2⟩
theorem Er.rr_bad {α : Type} {r : Er α} {s : Rs} {k : α → Rr} {why : Str} (h : r = .bad why) : r.rr s k = .bad s why := by rw [h]; rfl
theorem Er.rr_ok {α : Type} {r : Er α} {s : Rs} {k : α → Rr} {a : α} (h : r = .ok a) : r.rr s k = k a := by rw [h]; rfl
theorem putK_len {kvs : List (Key × V)} {k : Key} {v u : V} (h : valV kvs k = some u) : (putK kvs k v).length = kvs.length := by
  unfold putK
  rw [valV_any, h]
  simp
/-- a name that is there takes a value -/
theorem RunAt.put {H : Hp} {r d l : Addr} {s : Rs} {x : Str} {i : Int} (h : RunAt K H r d l s) (hx : (s.nv x).isSome = true) : ∃ H2, DPut H d (.str x) (.int i) H2 ∧ Kp [r, d, l] H H2 ∧ RunAt K H2 r d l { s with nv := upN s.nv x i } := by
  obtain ⟨⟨dx, q, od, dk, e1, e2⟩, ⟨kvs, e3, e4, e5⟩, ⟨xs, e6, e7⟩⟩ := h
  obtain ⟨j, hj⟩ := Option.isSome_iff_exists.mp hx
  have old : valV kvs (.inr x) = some (.int j) := by rw [e4, hj]; rfl
  have k1 : Kp [r, d, l] H (upd H d (.dK (putK kvs (.inr x) (.int i)))) := Kp.refl.wr (by simp) e3
  refine ⟨_, DPut.k (k := .inr x) e3 (by rw [sizeLine_eq]; omega), k1, ⟨⟨dx, q, od, dk, ?_, k1.frz _ _ _ e2⟩, ⟨_, upd_same, fun y => ?_, ?_⟩, ⟨xs, ?_, e7.mono k1⟩⟩⟩
  · rw [upd_ne (ne_of e1 e3 fun z => nomatch z)]; exact e1
  · rw [valV_put]
    show _ = (if y = x then some i else s.nv y).map V.int
    by_cases e : y = x
    · rw [if_pos (by rw [e]), if_pos e]; rfl
    · rw [if_neg (fun z => e (Sum.inr.inj z)), if_neg e]; exact e4 y
  · rw [putK_len old]; exact e5
  · rw [upd_ne (ne_of e6 e3 fun z => nomatch z)]; exact e6
/-- what do_deed gets: a statement of the three -/
def St.isDeed : St → Option Str
  | .send .. => some "send"
  | .spawn .. => some "spawn"
  | .call .. => some "call"
  | _ => none
def spDeed (K : PySem.W.Frag) : Sp := fun vs H Q E => ∃ r d l s D wd v st, vs = [.ref r, .str wd, v] ∧ st.isDeed = some wd ∧ Di H v (stD st) ∧ RunAt K H r d l s ∧ RsOk D s ∧ St.ok D st ∧ rans K H r d l (runS st s) .non .non Q E
theorem ansL.of {r : Er (List Int)} {H : Hp} {Q : VK} {E : XK} (h1 : ∀ js, r = .ok js → ∀ Ha p, Kp [] H Ha → Ha p = some (.tup (js.map V.int)) → Q (.ref p) Ha) (h2 : ∀ s, r = .bad s → ∀ Ha dx, Kp [] H Ha → Ha dx = some (.xd [("reason", .str s)]) → E (.ref (He.ga K "Fault")) (some dx) Ha) : ansL K r H Q E := by
  cases r with
  | ok js => exact h1 js rfl
  | bad s => exact h2 s rfl
theorem ok_Run_do_deed (T : Tx K mg) : FnOk P w K mg base (L2N.CX P w) 10 (He.ma K (He.ga K "Run") "do_deed") T.fd_Run_do_deed P_Run_do_deed (spDeed K) := by
  obtain ⟨t60, h60⟩ := T.i_MOST_DEEDS
  refine T.D_Run_do_deed.ok sc_Run_do_deed (fun vs H Q E h => by obtain ⟨r, d, l, s, D, wd, v, st, rfl, _⟩ := h; rfl) fun cdv A outer s H vs Q E hr h => ⟨_, (Evl.pss_cut (ps_if (pt_cmpR op_eq (pv 1) pe_str (nomark _))
    (pss_cons (ps_set (i := 3) sc_Run_do_deed.nd rfl (.inl rfl) (pe_ti (pv 2)))
    (pss_cons (ps_if (pt_cmpR op_eq (pe_ti (pv 3)) pe_str (nomark _))
    (pss_one (ps_set (i := 3) sc_Run_do_deed.nd rfl (.inl rfl) (pe_tup (pa_cons pe_str (pa_cons (pe_meR (pe_fe T.c_Run T.n_Run_reckoner (pv 0)) T.c_Reckoner T.m_Reckoner_whole (ok_Reckoner_whole T) (hr.mono (by decide)) T.b_Reckoner_whole (fun σ => L2N.passAt (L2N.takes_of rfl rfl rfl rfl) σ) (pa_cons (pe_meR (pv 0) T.c_Run T.m_Run_reckon (ok_Run_reckon T) (hr.mono (by decide)) T.b_Run_reckon (fun σ => L2N.passAt (L2N.takes_of rfl rfl rfl rfl) σ) (pa_cons (pe_ti (pv 3)) pa_nil)) pa_nil)) pa_nil)))))
    pss_nil)
    (pss_one (ps_set (i := 4) sc_Run_do_deed.nd rfl (.inl rfl) (pe_tup (pa_cons pe_str (pa_cons (pv 3) (pa_cons (pe_ti (pv 2)) (pa_cons (pe_meR (pv 0) T.c_Run T.m_Run_reckon_all (ok_Run_reckon_all T) (hr.mono (by decide)) T.b_Run_reckon_all (fun σ => L2N.passAt (L2N.takes_of rfl rfl rfl rfl) σ) (pa_cons (pe_ti (pv 2)) pa_nil)) pa_nil)))))))))
    (pss_one (ps_if (pt_cmpR op_eq (pv 1) pe_str (nomark _))
    (pss_one (ps_set (i := 4) sc_Run_do_deed.nd rfl (.inl rfl) (pe_tup (pa_cons pe_str (pa_cons (pe_ti (pv 2)) (pa_cons (pe_meR (pv 0) T.c_Run T.m_Run_reckon_all (ok_Run_reckon_all T) (hr.mono (by decide)) T.b_Run_reckon_all (fun σ => L2N.passAt (L2N.takes_of rfl rfl rfl rfl) σ) (pa_cons (pe_ti (pv 2)) pa_nil)) pa_nil))))))
    (pss_one (ps_set (i := 4) sc_Run_do_deed.nd rfl (.inl rfl) (pe_tup (pa_cons pe_str (pa_cons (pe_ti (pv 2)) (pa_cons (pe_meR (pv 0) T.c_Run T.m_Run_reckon_all (ok_Run_reckon_all T) (hr.mono (by decide)) T.b_Run_reckon_all (fun σ => L2N.passAt (L2N.takes_of rfl rfl rfl rfl) σ) (pa_cons (pe_ti (pv 2)) pa_nil)) (pa_cons (pe_ti (pv 2)) pa_nil))))))))))
    (pss_cons (ps_if (pt_cmpR op_eq (pe_callB call_len_seq (by rfl) T.f_len (by decide +kernel) (pa_cons (pe_fe T.c_Run T.n_Run_deeds (pv 0)) pa_nil)) (pe_glob (v := .int 60) rfl h60 ⟨t60, rfl⟩) (nomark _))
    (pss_one (ps_raiseE T.e_Fault.oex T.e_Fault.init T.e_Fault.fn (ok_Fault_init T) (hr.mono (by decide)) T.b_Fault_init rfl rfl T.g_Fault (L2N.takes_of rfl rfl rfl rfl) pe_str))
    pss_nil)
    (pss_cons (ps_expr (pe_bm PySem.F.plainAttrs_list PySem.F.slot_list_append PySem.F.type_list_append mt_append (pe_fe T.c_Run T.n_Run_deeds (pv 0)) (pa_cons (pv 4) pa_nil)))
    (pss_one (ps_if (pt_cmpR op_eq (pv 1) pe_str (nomark _))
    (pss_cons (ps_dput (hu_of hr) (pe_fe T.c_Run T.n_Run_names (pv 0)) (pe_ti (pv 2)) (pe_meR (pe_fe T.c_Run T.n_Run_reckoner (pv 0)) T.c_Reckoner T.m_Reckoner_told (ok_Reckoner_told T) (hr.mono (by decide)) T.b_Reckoner_told (fun σ => L2N.passAt (L2N.takes_of rfl rfl rfl rfl) σ) (pa_cons (pe_fe T.c_Run T.n_Run_spawned (pv 0)) pa_nil)) rfl)
    (pss_one (ps_fa T.c_Run T.n_Run_spawned (pv 0) pe_int)))
    pss_nil))))), ?_⟩
  obtain ⟨r, d, l, rs, D, wd, v, st, rfl, isd, di, ra, ok, so, h⟩ := h
  have dom : ∀ {e}, eOk D e → eOk (fun x => (rs.nv x).isSome = true) e := fun o => o.mono ok.dom
  -- behind the deed that is made: what is left
  refine ⟨fun σ Ha => ∃ tv dv dd kk, σ = [some (.ref r), some (.str wd), some v, tv, some dv] ∧ Kp [] H Ha ∧ Di Ha dv (ddD dd) ∧ runS st rs = addD rs dd kk ∧ ((wd ≠ "spawn" ∧ kk = id) ∨ (wd = "spawn" ∧ ∃ x a b c, D x ∧ Di H v (.tuple [a, b, c, .str x]) ∧ kk = fun s => { s with nv := upN s.nv x s.sp, sp := s.sp + 1 })), ?_, ?_⟩
  · obtain ⟨dx0, k0, od0, dk0, er0, ek0⟩ := ra.run
    cases st with
    | send t m as =>
      cases isd
      obtain ⟨p, v0, v1, v2, v3, rfl, ep, d0, d1, d2, d3⟩ := di.inv4
      cases d0.inv_str
      cases d2.inv_str
      refine ⟨_, rfl, rfl, _, rfl, iT rfl ⟨_, rfl, p, _, _, rfl, ep, rfl, ?_⟩⟩
      cases t with
      | par =>
        obtain ⟨pt, u0, rfl, ept, du⟩ := d1.inv1
        cases du.inv_str
        refine ⟨_, rfl, pt, _, _, rfl, ept, rfl, rfl, _, rfl, iF rfl ?_⟩
        refine ⟨_, rfl, _, rfl, p, _, _, rfl, ep, rfl, _, rfl, r, dx0, _, rfl, .inl er0, rfl, _, rfl, p, _, _, rfl, ep, rfl, r, d, l, rs, v3, as, rfl, d3, ra, fun e m => dom (so.2.1 e m), ok.bnm, so.2.2, ansL.of (fun js ej Ha q ka eq => ⟨by show 4 ≤ sizeLine; decide, fun t nt => ?_⟩) fun why ew Ha dx ka ex => ?_⟩
        · have kn : Kp [] Ha (upd Ha t (.tup [.str "send", .ref pt, .str m, .ref q])) := Kp.refl.new nt
          refine ⟨_, _, .send .par m js, id, rfl, ka.trans kn, .tup upd_same (.cons (.str _) (.cons ((d1.mono ka).mono kn) (.cons (.str _) (.cons (.tup (kn.tup _ _ eq) (Dl.ints js)) .nil)))), ?_, .inl ⟨by decide, rfl⟩⟩
          rw [show runS (.send .par m as) rs = (evs rs.nv as).rr rs fun vs => addD rs (.send .par m vs) id from rfl, Er.rr_ok ej]
        · have e : runS (.send .par m as) rs = .bad rs why := by
            rw [show runS (.send .par m as) rs = (evs rs.nv as).rr rs fun vs => addD rs (.send .par m vs) id from rfl, Er.rr_bad ew]
          rw [e] at h
          exact h Ha dx (ka.more fun _ m => nomatch m) ex
      | self =>
        obtain ⟨pt, u0, rfl, ept, du⟩ := d1.inv1
        cases du.inv_str
        refine ⟨_, rfl, pt, _, _, rfl, ept, rfl, rfl, _, rfl, iF rfl ?_⟩
        refine ⟨_, rfl, _, rfl, p, _, _, rfl, ep, rfl, _, rfl, r, dx0, _, rfl, .inl er0, rfl, _, rfl, p, _, _, rfl, ep, rfl, r, d, l, rs, v3, as, rfl, d3, ra, fun e m => dom (so.2.1 e m), ok.bnm, so.2.2, ansL.of (fun js ej Ha q ka eq => ⟨by show 4 ≤ sizeLine; decide, fun t nt => ?_⟩) fun why ew Ha dx ka ex => ?_⟩
        · have kn : Kp [] Ha (upd Ha t (.tup [.str "send", .ref pt, .str m, .ref q])) := Kp.refl.new nt
          refine ⟨_, _, .send .self m js, id, rfl, ka.trans kn, .tup upd_same (.cons (.str _) (.cons ((d1.mono ka).mono kn) (.cons (.str _) (.cons (.tup (kn.tup _ _ eq) (Dl.ints js)) .nil)))), ?_, .inl ⟨by decide, rfl⟩⟩
          rw [show runS (.send .self m as) rs = (evs rs.nv as).rr rs fun vs => addD rs (.send .self m vs) id from rfl, Er.rr_ok ej]
        · have e : runS (.send .self m as) rs = .bad rs why := by
            rw [show runS (.send .self m as) rs = (evs rs.nv as).rr rs fun vs => addD rs (.send .self m vs) id from rfl, Er.rr_bad ew]
          rw [e] at h
          exact h Ha dx (ka.more fun _ m => nomatch m) ex
      | child ex =>
        obtain ⟨pt, u0, u1, rfl, ept, du, du1⟩ := d1.inv2
        cases du.inv_str
        refine ⟨_, rfl, pt, _, _, rfl, ept, rfl, rfl, _, rfl, iT rfl ?_⟩
        refine ⟨_, rfl, r, dx0, _, _, rfl, er0, rfl, k0, dk0, [], rfl, .inr ⟨od0, ek0⟩, rfl, _, rfl, r, dx0, _, rfl, .inl er0, rfl, _, rfl, pt, _, _, rfl, ept, rfl, r, d, l, rs, u1, ex, rfl, du1, ra, dom so.1, ok.bnm, ans.of (fun j ej Ha ka => ⟨_, j, rfl, by show 2 ≤ sizeLine; decide, fun t2 nt2 => ?_⟩) fun why ew Ha dx ka ex' => ?_⟩
        · have k2 : Kp [] Ha (upd Ha t2 (.tup [.str "child", .int j])) := Kp.refl.new nt2
          have kb := ka.trans k2
          have rb := ra.mono kb
          obtain ⟨dx1, k1, od1, dk1, er1, ek1⟩ := rb.run
          refine ⟨_, rfl, _, rfl, p, _, _, rfl, kb.tup _ _ ep, rfl, _, rfl, r, dx1, _, rfl, .inl er1, rfl, _, rfl, p, _, _, rfl, kb.tup _ _ ep, rfl, r, d, l, rs, v3, as, rfl, d3.mono kb, rb, fun e m => dom (so.2.1 e m), ok.bnm, so.2.2, ansL.of (fun js ej2 Hb q kc eq => ⟨by show 4 ≤ sizeLine; decide, fun t nt => ?_⟩) fun why ew Hb dx kc ex' => ?_⟩
          · have kn : Kp [] Hb (upd Hb t (.tup [.str "send", .ref t2, .str m, .ref q])) := Kp.refl.new nt
            refine ⟨_, _, .send (.child j) m js, id, rfl, (kb.trans kc).trans kn, .tup upd_same (.cons (.str _) (.cons (.tup (kn.tup _ _ (kc.tup _ _ upd_same)) (.cons (.str _) (.cons (.int j) .nil))) (.cons (.str _) (.cons (.tup (kn.tup _ _ eq) (Dl.ints js)) .nil)))), ?_, .inl ⟨by decide, rfl⟩⟩
            show (tgt rs.nv (.child ex)).rr rs _ = _
            rw [show tgt rs.nv (.child ex) = .ok (.child j) by show (ev rs.nv ex).bind _ = _; rw [ej]; rfl, Er.rr_ok rfl, Er.rr_ok ej2]
          · have e : runS (.send (.child ex) m as) rs = .bad rs why := by
              show (tgt rs.nv (.child ex)).rr rs _ = _
              rw [show tgt rs.nv (.child ex) = .ok (.child j) by show (ev rs.nv ex).bind _ = _; rw [ej]; rfl, Er.rr_ok rfl, Er.rr_bad ew]
            rw [e] at h
            exact h Hb dx ((kb.trans kc).more fun _ m => nomatch m) ex'
        · have e : runS (.send (.child ex) m as) rs = .bad rs why := by
            show (tgt rs.nv (.child ex)).rr rs _ = _
            rw [show tgt rs.nv (.child ex) = .bad why by show (ev rs.nv ex).bind _ = _; rw [ew]; rfl, Er.rr_bad rfl]
          rw [e] at h
          exact h Ha dx (ka.more fun _ m => nomatch m) ex'
    | spawn kd as x =>
      cases isd
      obtain ⟨p, v0, v1, v2, v3, rfl, ep, d0, d1, d2, d3⟩ := di.inv4
      cases d0.inv_str
      cases d1.inv_str
      refine ⟨_, rfl, rfl, _, rfl, iF rfl ⟨_, rfl, rfl, _, rfl, iT rfl ?_⟩⟩
      refine ⟨_, rfl, p, _, _, rfl, ep, rfl, _, rfl, r, dx0, _, rfl, .inl er0, rfl, _, rfl, p, _, _, rfl, ep, rfl, r, d, l, rs, v2, as, rfl, d2, ra, fun e m => dom (so.2.1 e m), ok.bnm, so.2.2, ansL.of (fun js ej Ha q ka eq => ⟨by show 3 ≤ sizeLine; decide, fun t nt => ?_⟩) fun why ew Ha dx ka ex => ?_⟩
      · have kn : Kp [] Ha (upd Ha t (.tup [.str "spawn", .str kd, .ref q])) := Kp.refl.new nt
        refine ⟨_, _, .spawn kd js, _, rfl, ka.trans kn, .tup upd_same (.cons (.str _) (.cons (.str _) (.cons (.tup (kn.tup _ _ eq) (Dl.ints js)) .nil))), ?_, .inr ⟨rfl, x, _, _, _, so.1, di, rfl⟩⟩
        show (evs rs.nv as).rr rs _ = _
        rw [Er.rr_ok ej]
      · have e : runS (.spawn kd as x) rs = .bad rs why := by
          show (evs rs.nv as).rr rs _ = _
          rw [Er.rr_bad ew]
        rw [e] at h
        exact h Ha dx (ka.more fun _ m => nomatch m) ex
    | call f as m =>
      cases isd
      obtain ⟨p, v0, v1, v2, v3, rfl, ep, d0, d1, d2, d3⟩ := di.inv4
      cases d0.inv_str
      cases d1.inv_str
      refine ⟨_, rfl, rfl, _, rfl, iF rfl ⟨_, rfl, rfl, _, rfl, iF rfl ?_⟩⟩
      refine ⟨_, rfl, p, _, _, rfl, ep, rfl, _, rfl, r, dx0, _, rfl, .inl er0, rfl, _, rfl, p, _, _, rfl, ep, rfl, r, d, l, rs, v2, as, rfl, d2, ra, fun e m => dom (so.1 e m), ok.bnm, so.2, ansL.of (fun js ej Ha q ka eq => ⟨_, rfl, p, _, _, rfl, ka.tup _ _ ep, rfl, by show 4 ≤ sizeLine; decide, fun t nt => ?_⟩) fun why ew Ha dx ka ex => ?_⟩
      · have kn : Kp [] Ha (upd Ha t (.tup [.str "call", .str f, .ref q, v3])) := Kp.refl.new nt
        refine ⟨_, _, .call f js m, id, rfl, ka.trans kn, .tup upd_same (.cons (.str _) (.cons (.str _) (.cons (.tup (kn.tup _ _ eq) (Dl.ints js)) (.cons ((d3.mono ka).mono kn) .nil)))), ?_, .inl ⟨by decide, rfl⟩⟩
        show (evs rs.nv as).rr rs _ = _
        rw [Er.rr_ok ej]
      · have e : runS (.call f as m) rs = .bad rs why := by
          show (evs rs.nv as).rr rs _ = _
          rw [Er.rr_bad ew]
        rw [e] at h
        exact h Ha dx (ka.more fun _ m => nomatch m) ex
    | set _ _ => cases isd
    | iff _ _ _ => cases isd
    | rep _ _ => cases isd
    | stop => cases isd
    | fail => cases isd
  · rintro σ Ha ⟨tv, dv, dd, kk, rfl, ka, dd1, hres, hk⟩
    rw [hres] at h
    have ra1 := ra.mono ka
    obtain ⟨⟨dx, k, od, dk, er, ek⟩, ⟨kvs, en, en2, en3⟩, ⟨xs, el, dl⟩⟩ := id ra1
    have len : xs.length = rs.dd.length := by rw [dl.length, List.length_map]
    refine ⟨_, rfl, r, dx, _, _, rfl, er, rfl, l, xs, rfl, .inl (SqL.of el), rfl, _, rfl, ?_⟩
    rw [dI]
    by_cases full : rs.dd.length = 60
    · refine iT (decide_eq_true (by rw [len, full]; rfl)) fun Hb dx' kb eb => ?_
      have q : rans K H r d l (.bad rs "deeds") .non .non Q E := by
        unfold addD at h
        rw [if_pos full] at h
        exact h
      exact q Hb dx' ((ka.then0 kb).more fun _ m => nomatch m) eb
    · have q : rans K H r d l (.go (kk { rs with dd := rs.dd ++ [dd] })) .non .non Q E := by
        unfold addD at h
        rw [if_neg full] at h
        exact h
      have few := ok.few
      refine iF (decide_eq_false (by rw [len]; omega)) ⟨_, rfl, r, dx, _, _, rfl, er, rfl, .inl ⟨rfl, xs, SqL.of el⟩, _, rfl, l, xs, dv, rfl, rfl, el, by rw [len, sizeLine_eq]; omega, ?_⟩
      have k1 : Kp [r, d, l] H (upd Ha l (.lst (xs ++ [dv]))) := (ka.more fun _ m => nomatch m).wr (by simp) el
      have k1' : Kp [r, d, l] Ha (upd Ha l (.lst (xs ++ [dv]))) := Kp.refl.wr (by simp) el
      have hr' : (upd Ha l (.lst (xs ++ [dv]))) r = some (.ins (He.ga K "Run") dx (runF d rs.sp k l)) := (upd_ne (ne_of er el fun z => nomatch z)).trans er
      have ra2 : RunAt K (upd Ha l (.lst (xs ++ [dv]))) r d l { rs with dd := rs.dd ++ [dd] } := ⟨⟨dx, k, od, dk, hr', k1'.frz _ _ _ ek⟩, ⟨kvs, (upd_ne (ne_of en el fun z => nomatch z)).trans en, en2, en3⟩, ⟨_, upd_same, by rw [List.map_append]; exact (dl.mono k1').append (.cons (dd1.mono k1') .nil)⟩⟩
      rcases hk with ⟨ne, rfl⟩ | ⟨rfl, x, a, b, c, hx, dv4, rfl⟩
      · refine ⟨_, rfl, rfl, _, rfl, iF (decide_eq_false fun z => ne (V.str.inj z)) (q _ k1 ra2)⟩
      · obtain ⟨p, va, vb, vc, vd, rfl, e4, _, _, _, d4⟩ := dv4.inv4
        cases d4.inv_str
        refine ⟨_, rfl, rfl, _, rfl, iT rfl ?_⟩
        have ra3 := ra2
        obtain ⟨H2, dput, kd, ra4⟩ := RunAt.put (i := rs.sp) ra2 (ok.dom x hx)
        have e4' : (upd Ha l (.lst (xs ++ [dv]))) p = some (.tup [va, vb, vc, .str x]) := k1.tup _ _ e4
        have hr2 : ∃ dx2 k2 od2 dk2, H2 r = some (.ins (He.ga K "Run") dx2 (runF d rs.sp k2 l)) ∧ H2 k2 = some (.frz od2 (.ins (He.ga K "Reckoner") dk2 [])) := ra4.run
        obtain ⟨dx2, k2, od2, dk2, er2, ek2⟩ := hr2
        refine ⟨_, rfl, r, dx, _, _, rfl, hr', rfl, k, dk, [], rfl, .inr ⟨od, k1'.frz _ _ _ ek⟩, rfl, _, rfl, r, dx, _, _, rfl, hr', rfl, _, rs.sp, rfl, ?_⟩
        refine ⟨_, rfl, r, dx, _, _, rfl, hr', rfl, _, rfl, p, _, _, rfl, e4', rfl, d, H2, rfl, dput, ?_⟩
        refine ⟨_, rfl, r, dx2, _, rs.sp, rfl, er2, rfl, 1, dx2, _, rfl, er2, (by decide : (4 : Nat) < 1000), ?_⟩
        have k3 : Kp [r, d, l] H (upd H2 r (.ins (He.ga K "Run") dx2 (runF d (rs.sp + 1) k2 l))) := (k1.trans kd).wr (by simp) er2
        refine q _ k3 ?_
        obtain ⟨kvs2, f1, f2, f3⟩ := ra4.nam
        obtain ⟨xs2, f4, f5⟩ := ra4.dds
        have k4 : Kp [r, d, l] H2 (upd H2 r (.ins (He.ga K "Run") dx2 (runF d (rs.sp + 1) k2 l))) := Kp.refl.wr (by simp) er2
        exact ⟨⟨dx2, k2, od2, dk2, upd_same, k4.frz _ _ _ ek2⟩, ⟨kvs2, (upd_ne (ne_of f1 er2 fun z => nomatch z)).trans f1, f2, f3⟩, ⟨xs2, (upd_ne (ne_of f4 er2 fun z => nomatch z)).trans f4, f5.mono k4⟩⟩
end
end Rk
/-! retroact.handlers: go_through, do, repeat. -/
namespace Rk
open PySem PySem.Spec PyProof.Rows L2
def Rr.ok (D : Str → Prop) : Rr → Prop
  | .go t | .stop t => RsOk D t
  | .bad _ _ => True
theorem upN_B {f : Nm} {x : Str} {i : Int} (h : BNm f) (b : Bv i) : BNm (upN f x i) := fun y j e => by
  unfold upN at e
  split at e
  · cases e; exact b
  · exact h y j e
theorem upN_dom {f : Nm} {x y : Str} {i : Int} (h : (f y).isSome = true) : (upN f x i y).isSome = true := by
  unfold upN
  split
  · rfl
  · exact h
theorem RsOk.put {D : Str → Prop} {s : Rs} {x : Str} {i : Int} (h : RsOk D s) (b : Bv i) : RsOk D { s with nv := upN s.nv x i } := ⟨upN_B h.bnm b, fun y d => upN_dom (h.dom y d), h.sp0, h.sp1, h.few⟩
theorem Er.rr_okR {α : Type} {D : Str → Prop} {r : Er α} {s : Rs} {k : α → Rr} (h : ∀ a, r = .ok a → (k a).ok D) : (r.rr s k).ok D := by
  cases r with
  | ok a => exact h a rfl
  | bad w => trivial
theorem addD_ok {D : Str → Prop} {s : Rs} {d : Dd} {k : Rs → Rs} (h : RsOk D s) (hk : ∀ t, RsOk D t → t.sp = s.sp → t.nv = s.nv → t.dd.length = s.dd.length + 1 → RsOk D (k t)) : (addD s d k).ok D := by
  unfold addD
  split
  · trivial
  · rename_i n
    have few := h.few
    have sp1 := h.sp1
    exact hk _ ⟨h.bnm, h.dom, h.sp0, by show s.sp ≤ 100000000 + ((s.dd ++ [d]).length : Int); rw [List.length_append]; simp only [List.length_cons, List.length_nil]; omega, by show (s.dd ++ [d]).length ≤ 60; rw [List.length_append]; simp only [List.length_cons, List.length_nil]; omega⟩ rfl rfl (by show (s.dd ++ [d]).length = _; rw [List.length_append]; rfl)
theorem addD_okI {D : Str → Prop} {s : Rs} {d : Dd} (h : RsOk D s) : (addD s d id).ok D := addD_ok h fun t ht _ _ _ => ht
theorem iter_ok {D : Str → Prop} {f : Rs → Rr} (hf : ∀ s, RsOk D s → (f s).ok D) : ∀ (n : Nat) (s : Rs), RsOk D s → (iter f n s).ok D
  | 0, s, h => h
  | n + 1, s, h => by
    have q := hf s h
    unfold iter
    cases e : f s with
    | go t => rw [e] at q; exact iter_ok hf n t q
    | stop t => rw [e] at q; exact q
    | bad t w => trivial
mutual
theorem runS_ok {D : Str → Prop} : ∀ (st : St) (s : Rs), St.ok D st → RsOk D s → (runS st s).ok D
  | .set x e, s, o, h => Er.rr_okR fun v hv => h.put (ev_Bv h.bnm hv)
  | .iff e a b, s, o, h => Er.rr_okR fun v hv => by
    by_cases z : v ≠ 0
    · rw [if_pos z]; exact runL_ok a s o.2.1 h
    · rw [if_neg z]; exact runL_ok b s o.2.2 h
  | .rep e a, s, o, h => Er.rr_okR fun v hv => by
    by_cases z : 0 ≤ v ∧ v ≤ 20
    · rw [if_pos z]; exact iter_ok (fun t ht => runL_ok a t o.2 ht) _ _ h
    · rw [if_neg z]; trivial
  | .send t m as, s, o, h => Er.rr_okR fun t ht => Er.rr_okR fun vs hvs => addD_okI h
  | .spawn k as x, s, o, h => Er.rr_okR fun vs hvs => addD_ok h fun t ht e1 e2 e3 => by
    have a := h.sp0
    have b := h.sp1
    have c := h.few
    have q := ht.put (x := x) (i := t.sp) ⟨by rw [e1]; omega, by rw [e1]; omega⟩
    exact ⟨q.bnm, q.dom, by show 0 ≤ t.sp + 1; rw [e1]; omega, by show t.sp + 1 ≤ 100000000 + (t.dd.length : Int); rw [e1, e3]; omega, q.few⟩
  | .call f as m, s, o, h => Er.rr_okR fun vs hvs => addD_okI h
  | .stop, s, o, h => h
  | .fail, s, o, h => trivial
theorem runL_ok {D : Str → Prop} : ∀ (b : List St) (s : Rs), bOk D b → RsOk D s → (runL b s).ok D
  | [], s, o, h => h
  | x :: r, s, o, h => by
    have q := runS_ok x s o.1 h
    show (match runS x s with | .go t => runL r t | z => z).ok D
    cases e : runS x s with
    | go t => rw [e] at q; exact runL_ok r t o.2 q
    | stop t => rw [e] at q; exact q
    | bad t w => trivial
end
theorem bOk_at {D : Str → Prop} : ∀ {b : List St} {i : Nat} {st : St}, bOk D b → b[i]? = some st → St.ok D st
  | _ :: _, 0, _, h, e => by simp only [List.getElem?_cons_zero] at e; cases e; exact h.1
  | _ :: _, i + 1, _, h, e => by simp only [List.getElem?_cons_succ] at e; exact bOk_at h.2 e
  | [], _, _, _, e => by simp at e
theorem bDep_at : ∀ {b : List St} {i : Nat} {st : St} {n : Nat}, bDep b < n → b[i]? = some st → st.dep < n
  | x :: r, 0, _, n, h, e => by
    simp only [List.getElem?_cons_zero] at e
    cases e
    have : max x.dep (bDep r) < n := h
    omega
  | x :: r, i + 1, _, n, h, e => by
    simp only [List.getElem?_cons_succ] at e
    have : max x.dep (bDep r) < n := h
    exact bDep_at (by omega) e
  | [], _, _, _, _, e => by simp at e
section
variable {K : PySem.W.Frag} {mg : Str → Option Value} {P : Program} {w : World} {base : Heap}
theorem rans.of {H : Hp} {r d l : Addr} {res : Rr} {vg vs : V} {Q : VK} {E : XK} (h1 : ∀ t, res = .go t → ∀ Ha, Kp [r, d, l] H Ha → RunAt K Ha r d l t → Q vg Ha) (h2 : ∀ t, res = .stop t → ∀ Ha, Kp [r, d, l] H Ha → RunAt K Ha r d l t → Q vs Ha)
    (h3 : ∀ t why, res = .bad t why → ∀ Ha dx, Kp [r, d, l] H Ha → Ha dx = some (.xd [("reason", .str why)]) → E (.ref (He.ga K "Fault")) (some dx) Ha) : rans K H r d l res vg vs Q E := by
  cases res with
  | go t => exact h1 t rfl
  | stop t => exact h2 t rfl
  | bad t why => exact h3 t why rfl
def spGo (K : PySem.W.Frag) (n : Nat) : Sp := fun vs H Q E => ∃ r d l s D v b, vs = [.ref r, v] ∧ Di H v (.list (bdD b)) ∧ bDep b < n ∧ RunAt K H r d l s ∧ RsOk D s ∧ bOk D b ∧ rans K H r d l (runL b s) (.bl false) (.bl true) Q E
def spDo (K : PySem.W.Frag) (n : Nat) : Sp := fun vs H Q E => ∃ r d l s D v st, vs = [.ref r, v] ∧ Di H v (stD st) ∧ st.dep < n ∧ RunAt K H r d l s ∧ RsOk D s ∧ St.ok D st ∧ rans K H r d l (runS st s) (.bl false) (.bl true) Q E
def spRep (K : PySem.W.Frag) (n : Nat) : Sp := fun vs H Q E => ∃ r d l s D v e a, vs = [.ref r, v] ∧ Di H v (stD (.rep e a)) ∧ bDep a < n ∧ RunAt K H r d l s ∧ RsOk D s ∧ St.ok D (.rep e a) ∧ rans K H r d l (runS (.rep e a) s) (.bl false) (.bl true) Q E
theorem addD_nostop {s t : Rs} {d : Dd} {k : Rs → Rs} : addD s d k ≠ .stop t := by
  unfold addD
  split <;> exact fun z => nomatch z
theorem Er.rr_nostop {α : Type} {r : Er α} {s t : Rs} {k : α → Rr} (h : ∀ a, k a ≠ .stop t) : r.rr s k ≠ .stop t := by
  cases r with
  | ok a => exact h a
  | bad w => exact fun z => nomatch z
theorem deed_nostop {st : St} {s t : Rs} {x : Str} (h : st.isDeed = some x) : runS st s ≠ .stop t := by
  cases st with
  | send tt m as => exact Er.rr_nostop fun _ => Er.rr_nostop fun _ => addD_nostop
  | spawn k as x => exact Er.rr_nostop fun _ => addD_nostop
  | call f as m => exact Er.rr_nostop fun _ => addD_nostop
  | _ => cases h
theorem runL_drop {b : List St} {i : Nat} {st : St} {s : Rs} (h : b[i]? = some st) : runL (b.drop i) s = match runS st s with
    | .go t => runL (b.drop (i + 1)) t
    | z => z := by
  obtain ⟨lt, e⟩ := List.getElem?_eq_some_iff.mp h
  rw [List.drop_eq_getElem_cons lt, e]
  rfl
theorem go_of (T : Tx K mg) {n k : Nat} (hdo : FnOk P w K mg base (L2N.CX P w) k (He.ma K (He.ga K "Run") "do") T.fd_Run_do P_Run_do (spDo K n)) : FnOk P w K mg base (L2N.CX P w) (k + 1) (He.ma K (He.ga K "Run") "go_through") T.fd_Run_go_through P_Run_go_through (spGo K n) := by
  refine T.D_Run_go_through.ok sc_Run_go_through (fun vs H Q E h => by obtain ⟨r, d, l, s, D, v, b, rfl, _⟩ := h; rfl) fun cdv A outer s H vs Q E hr h => ⟨_, (pss_cons (ps_for PassesOwn.leaving rfl (pi_list (pv 1)) (pg_name (i := 2) sc_Run_go_through.nd rfl (.inl rfl))
    (pss_one (ps_if (pt_val (pe_meR (pv 0) T.c_Run T.m_Run_do hdo hr T.b_Run_do (fun σ => L2N.passAt (L2N.takes_of rfl rfl rfl rfl) σ) (pa_cons (pv 2) pa_nil)))
    (pss_one (ps_ret pe_bl))
    pss_nil)))
    (pss_one (ps_ret pe_bl))), ?_⟩
  obtain ⟨r, d, l, rs, D, v, b, rfl, di, dep, ra, ok, bo, h⟩ := h
  obtain ⟨a, o, xs, rfl, ea, dl⟩ := di.inv_lst
  have len : xs.length = b.length := by rw [dl.length, bdD_length]
  refine ⟨_, rfl, a, rfl, ⟨xs, .inl (.inr ⟨o, ea⟩)⟩, for_list (xs := xs) (fun i σ Ha => ∃ s' tv, σ = [some (.ref r), some (.ref a), tv] ∧ runL b rs = runL (b.drop i) s' ∧ RsOk D s' ∧ Kp [r, d, l] H Ha ∧ RunAt K Ha r d l s') ⟨rs, none, rfl, rfl, ok, .refl, ra⟩ (fun i σ Ha _ ⟨_, _, _, _, _, ka, _⟩ => .inl (.inr ⟨o, ka.frz _ _ _ ea⟩)) (fun i x σ Ha hx ⟨s', tv, eσ, hb, ok', ka, ra'⟩ => ?_) fun σ Ha ⟨s', tv, eσ, hb, ok', ka, ra'⟩ => ?_⟩
  · subst eσ
    obtain ⟨de, hde, dx⟩ := dl.at' hx
    rw [bdD_at] at hde
    obtain ⟨st, hst, rfl⟩ : ∃ st, b[i]? = some st ∧ stD st = de := by
      cases q : b[i]? with
      | none => rw [q] at hde; cases hde
      | some e => rw [q] at hde; exact ⟨e, rfl, Option.some.inj hde⟩
    rw [runL_drop hst] at hb
    obtain ⟨dxx, k', od, dk, er, ek⟩ := ra'.run
    have sok := runS_ok st s' (bOk_at bo hst) ok'
    refine ⟨_, rfl, r, dxx, _, rfl, .inl er, rfl, _, rfl, r, d, l, s', D, x, st, rfl, dx.mono ka, bDep_at dep hst, ra', ok', bOk_at bo hst, rans.of (fun t et Hb kb rb => ⟨_, rfl, iF rfl ?_⟩) (fun t et Hb kb rb => ⟨_, rfl, iT rfl ?_⟩) fun t why et Hb dx' kb ex => ?_⟩
    · rw [et] at hb sok
      exact ⟨t, _, rfl, hb, sok, ka.trans kb, rb⟩
    · rw [et] at hb
      rw [show runL b rs = .stop t from hb] at h
      exact h Hb (ka.trans kb) rb
    · rw [et] at hb
      rw [show runL b rs = .bad t why from hb] at h
      exact h Hb dx' (ka.trans kb) ex
  · subst eσ
    rw [len, List.drop_length] at hb
    rw [show runL b rs = .go s' from hb] at h
    exact h Ha ka ra'
theorem rep_of (T : Tx K mg) {n k : Nat} (hk : 9 ≤ k) (hgo : FnOk P w K mg base (L2N.CX P w) k (He.ma K (He.ga K "Run") "go_through") T.fd_Run_go_through P_Run_go_through (spGo K n)) : FnOk P w K mg base (L2N.CX P w) (k + 1) (He.ma K (He.ga K "Run") "repeat") T.fd_Run_repeat P_Run_repeat (spRep K n) := by
  obtain ⟨t20, h20⟩ := T.i_MOST_TURNS
  refine T.D_Run_repeat.ok sc_Run_repeat (fun vs H Q E h => by obtain ⟨r, d, l, s, D, v, e, a, rfl, _⟩ := h; rfl) fun cdv A outer s H vs Q E hr h => ⟨_, (pss_cons (ps_set (i := 2) sc_Run_repeat.nd rfl (.inl rfl) (pe_meR (pe_fe T.c_Run T.n_Run_reckoner (pv 0)) T.c_Reckoner T.m_Reckoner_whole (ok_Reckoner_whole T) (hr.mono (by omega)) T.b_Reckoner_whole (fun σ => L2N.passAt (L2N.takes_of rfl rfl rfl rfl) σ) (pa_cons (pe_meR (pv 0) T.c_Run T.m_Run_reckon (ok_Run_reckon T) (hr.mono (by omega)) T.b_Run_reckon (fun σ => L2N.passAt (L2N.takes_of rfl rfl rfl rfl) σ) (pa_cons (pe_ti (pv 1)) pa_nil)) pa_nil)))
    (pss_cons (ps_if (pt_not (pt_chain op_le op_le pe_int (pv 2) (pe_glob (v := .int 20) rfl h20 ⟨t20, rfl⟩)))
    (pss_one (ps_raiseE T.e_Fault.oex T.e_Fault.init T.e_Fault.fn (ok_Fault_init T) (hr.mono (by omega)) T.b_Fault_init rfl rfl T.g_Fault (L2N.takes_of rfl rfl rfl rfl) pe_str))
    pss_nil)
    (pss_cons (ps_for PassesOwn.leaving rfl (pi_range1 rfl T.f_range (pa_cons (pv 2) pa_nil)) (pg_name (i := 3) sc_Run_repeat.nd rfl (.inl rfl))
    (pss_one (ps_if (pt_val (pe_meR (pv 0) T.c_Run T.m_Run_go_through hgo hr T.b_Run_go_through (fun σ => L2N.passAt (L2N.takes_of rfl rfl rfl rfl) σ) (pa_cons (pe_ti (pv 1)) pa_nil)))
    (pss_one (ps_ret pe_bl))
    pss_nil)))
    (pss_one (ps_ret pe_bl))))), ?_⟩
  obtain ⟨r, d, l, rs, D, v, e, a, rfl, di, dep, ra, ok, so, h⟩ := h
  obtain ⟨p, v0, v1, v2, rfl, ep, d0, d1, d2⟩ := di.inv3
  obtain ⟨dx0, k0, od0, dk0, er0, ek0⟩ := ra.run
  refine ⟨_, rfl, r, dx0, _, _, rfl, er0, rfl, k0, dk0, [], rfl, .inr ⟨od0, ek0⟩, rfl, _, rfl, r, dx0, _, rfl, .inl er0, rfl, _, rfl, p, _, _, rfl, ep, rfl, r, d, l, rs, v1, e, rfl, d1, ra, so.1.mono ok.dom, ok.bnm, ans.of (fun j ej Ha ka => ⟨_, j, rfl, ?_⟩) fun why ew Ha dx ka ex => ?_⟩
  · have hres : runS (.rep e a) rs = if 0 ≤ j ∧ j ≤ 20 then iter (runL a) j.toNat rs else .bad rs "count" := by
      rw [show runS (.rep e a) rs = (ev rs.nv e).rr rs fun v => if 0 ≤ v ∧ v ≤ 20 then iter (runL a) v.toNat rs else .bad rs "count" from rfl, Er.rr_ok ej]
    rw [hres] at h
    have bad : ¬ (0 ≤ j ∧ j ≤ 20) → ∀ Hb dx, Kp [] Ha Hb → Hb dx = some (.xd [("reason", V.str "count")]) → E (.ref (He.ga K "Fault")) (some dx) Hb := fun n Hb dx kb eb => by
      rw [if_neg n] at h
      exact h Hb dx ((ka.trans kb).more fun _ m => nomatch m) eb
    refine ⟨_, rfl, _, _, rfl, rfl, _, rfl, ?_⟩
    by_cases j0 : 0 ≤ j
    · refine iT (decide_eq_true j0) ⟨_, _, rfl, rfl, _, rfl, ?_⟩
      by_cases j1 : j ≤ 20
      · rw [if_pos ⟨j0, j1⟩] at h
        refine iF (nT j1) ⟨_, rfl, j, rfl, by omega, by omega, for_range (lo := 0) (n := j.toNat) (fun i σ Hb => ∃ s' tv, σ = [some (.ref r), some (.ref p), some (.int j), tv] ∧ iter (runL a) j.toNat rs = iter (runL a) (j.toNat - i) s' ∧ RsOk D s' ∧ Kp [r, d, l] H Hb ∧ RunAt K Hb r d l s') ⟨rs, none, rfl, rfl, ok, ka.more (fun _ m => nomatch m), ra.mono ka⟩ (fun i σ Hb hi ⟨s', tv, eσ, hb, ok', kb, rb⟩ => ?_) fun σ Hb ⟨s', tv, eσ, hb, ok', kb, rb⟩ => ?_⟩
        · subst eσ
          obtain ⟨m, hm⟩ : ∃ m, j.toNat - i = m + 1 := ⟨j.toNat - i - 1, by omega⟩
          have hm2 : j.toNat - (i + 1) = m := by omega
          rw [hm] at hb
          obtain ⟨dx1, k1, od1, dk1, er1, ek1⟩ := rb.run
          have sok := runL_ok a s' so.2 ok'
          refine ⟨_, rfl, r, dx1, _, rfl, .inl er1, rfl, _, rfl, p, _, _, rfl, kb.tup _ _ ep, rfl, r, d, l, s', D, v2, a, rfl, d2.mono kb, dep, rb, ok', so.2, rans.of (fun t et Hc kc rc => ⟨_, rfl, iF rfl ?_⟩) (fun t et Hc kc rc => ⟨_, rfl, iT rfl ?_⟩) fun t why et Hc dx' kc ex => ?_⟩
          · rw [et] at sok
            refine ⟨t, _, rfl, ?_, sok, kb.trans kc, rc⟩
            rw [hb, hm2]
            show (match runL a s' with | .go t => iter (runL a) m t | z => z) = _
            rw [et]
          · have q : iter (runL a) j.toNat rs = .stop t := by
              rw [hb]
              show (match runL a s' with | .go t => iter (runL a) m t | z => z) = _
              rw [et]
            rw [q] at h
            exact h Hc (kb.trans kc) rc
          · have q : iter (runL a) j.toNat rs = .bad t why := by
              rw [hb]
              show (match runL a s' with | .go t => iter (runL a) m t | z => z) = _
              rw [et]
            rw [q] at h
            exact h Hc dx' (kb.trans kc) ex
        · subst eσ
          rw [Nat.sub_self] at hb
          rw [show iter (runL a) j.toNat rs = .go s' from hb] at h
          exact h Hb kb rb
      · exact iT (nF j1) (bad fun z => j1 z.2)
    · exact iF (decide_eq_false j0) ⟨_, rfl, iT rfl (bad fun z => j0 z.1)⟩
  · rw [show runS (.rep e a) rs = .bad rs why from Er.rr_bad ew] at h
    exact h Ha dx (ka.more fun _ m => nomatch m) ex
theorem do_of (T : Tx K mg) {n k : Nat} (hk : 10 ≤ k) (hgo : FnOk P w K mg base (L2N.CX P w) k (He.ma K (He.ga K "Run") "go_through") T.fd_Run_go_through P_Run_go_through (spGo K n))
    (hrep : FnOk P w K mg base (L2N.CX P w) (k + 1) (He.ma K (He.ga K "Run") "repeat") T.fd_Run_repeat P_Run_repeat (spRep K n)) : FnOk P w K mg base (L2N.CX P w) (k + 2) (He.ma K (He.ga K "Run") "do") T.fd_Run_do P_Run_do (spDo K (n + 1)) := by
  refine T.D_Run_do.ok sc_Run_do (fun vs H Q E h => by obtain ⟨r, d, l, s, D, v, st, rfl, _⟩ := h; rfl) fun cdv A outer s H vs Q E hr h => ⟨_, (pss_cons (ps_set (i := 2) sc_Run_do.nd rfl (.inl rfl) (pe_ti (pv 1)))
    (pss_cons (ps_if (pt_cmpR op_eq (pv 2) pe_str (nomark _))
    (pss_one (ps_ret pe_bl))
    pss_nil)
    (pss_cons (ps_if (pt_cmpR op_eq (pv 2) pe_str (nomark _))
    (pss_one (ps_raiseE T.e_Fault.oex T.e_Fault.init T.e_Fault.fn (ok_Fault_init T) (hr.mono (by omega)) T.b_Fault_init rfl rfl T.g_Fault (L2N.takes_of rfl rfl rfl rfl) pe_str))
    pss_nil)
    (pss_cons (ps_if (pt_cmpR op_eq (pv 2) pe_str (nomark _))
    (pss_one (ps_dput (hu_of hr) (pe_fe T.c_Run T.n_Run_names (pv 0)) (pe_ti (pv 1)) (pe_meR (pv 0) T.c_Run T.m_Run_reckon (ok_Run_reckon T) (hr.mono (by omega)) T.b_Run_reckon (fun σ => L2N.passAt (L2N.takes_of rfl rfl rfl rfl) σ) (pa_cons (pe_ti (pv 1)) pa_nil)) rfl))
    (pss_one (ps_if (pt_cmpR op_eq (pv 2) pe_str (nomark _))
    (pss_cons (ps_if (pt_val (pe_meR (pe_fe T.c_Run T.n_Run_reckoner (pv 0)) T.c_Reckoner T.m_Reckoner_is_true (ok_Reckoner_is_true T) (hr.mono (by omega)) T.b_Reckoner_is_true (fun σ => L2N.passAt (L2N.takes_of rfl rfl rfl rfl) σ) (pa_cons (pe_meR (pv 0) T.c_Run T.m_Run_reckon (ok_Run_reckon T) (hr.mono (by omega)) T.b_Run_reckon (fun σ => L2N.passAt (L2N.takes_of rfl rfl rfl rfl) σ) (pa_cons (pe_ti (pv 1)) pa_nil)) pa_nil)))
    (pss_one (ps_ret (pe_meR (pv 0) T.c_Run T.m_Run_go_through hgo (hr.mono (by omega)) T.b_Run_go_through (fun σ => L2N.passAt (L2N.takes_of rfl rfl rfl rfl) σ) (pa_cons (pe_ti (pv 1)) pa_nil))))
    pss_nil)
    (pss_one (ps_ret (pe_meR (pv 0) T.c_Run T.m_Run_go_through hgo (hr.mono (by omega)) T.b_Run_go_through (fun σ => L2N.passAt (L2N.takes_of rfl rfl rfl rfl) σ) (pa_cons (pe_ti (pv 1)) pa_nil)))))
    (pss_one (ps_if (pt_cmpR op_eq (pv 2) pe_str (nomark _))
    (pss_one (ps_ret (pe_meR (pv 0) T.c_Run T.m_Run_repeat hrep (hr.mono (by omega)) T.b_Run_repeat (fun σ => L2N.passAt (L2N.takes_of rfl rfl rfl rfl) σ) (pa_cons (pv 1) pa_nil))))
    (pss_one (ps_expr (pe_meR (pv 0) T.c_Run T.m_Run_do_deed (ok_Run_do_deed T) (hr.mono (by omega)) T.b_Run_do_deed (fun σ => L2N.passAt (L2N.takes_of rfl rfl rfl rfl) σ) (pa_cons (pv 2) (pa_cons (pv 1) pa_nil))))))))))
    (pss_one (ps_ret pe_bl)))))), ?_⟩
  obtain ⟨r, d, l, rs, D, v, st, rfl, di, dep, ra, ok, so, h⟩ := h
  obtain ⟨dx0, k0, od0, dk0, er0, ek0⟩ := ra.run
  have more : ∀ {Ha : Hp}, Kp [] H Ha → Kp [r, d, l] H Ha := fun k => k.more (fun _ m => nomatch m)
  cases st with
  | stop =>
    obtain ⟨p, v0, rfl, ep, d0⟩ := di.inv1
    cases d0.inv_str
    exact ⟨_, rfl, p, _, _, rfl, ep, rfl, _, rfl, rfl, _, rfl, iT rfl (h H .refl ra)⟩
  | fail =>
    obtain ⟨p, v0, rfl, ep, d0⟩ := di.inv1
    cases d0.inv_str
    exact ⟨_, rfl, p, _, _, rfl, ep, rfl, _, rfl, rfl, _, rfl, iF rfl ⟨_, rfl, rfl, _, rfl, iT rfl fun Hb dx kb eb => h Hb dx (more kb) eb⟩⟩
  | set x e =>
    obtain ⟨p, v0, v1, v2, rfl, ep, d0, d1, d2⟩ := di.inv3
    cases d0.inv_str
    cases d1.inv_str
    refine ⟨_, rfl, p, _, _, rfl, ep, rfl, _, rfl, rfl, _, rfl, iF rfl ⟨_, rfl, rfl, _, rfl, iF rfl ⟨_, rfl, rfl, _, rfl, iT rfl ?_⟩⟩⟩
    refine ⟨_, rfl, r, dx0, _, rfl, .inl er0, rfl, _, rfl, p, _, _, rfl, ep, rfl, r, d, l, rs, v2, e, rfl, d2, ra, so.2.mono ok.dom, ok.bnm, ans.of (fun j ej Ha ka => ?_) fun why ew Ha dx ka ex => ?_⟩
    · have ra1 := ra.mono ka
      obtain ⟨dx1, k1, od1, dk1, er1, ek1⟩ := ra1.run
      obtain ⟨H2, dput, kd, ra2⟩ := RunAt.put (i := j) ra1 (ok.dom x so.1)
      refine ⟨_, rfl, r, dx1, _, _, rfl, er1, rfl, _, rfl, p, _, _, rfl, ka.tup _ _ ep, rfl, d, H2, rfl, dput, ?_⟩
      rw [show runS (.set x e) rs = .go { rs with nv := upN rs.nv x j } from Er.rr_ok ej] at h
      exact h H2 ((more ka).trans kd) ra2
    · rw [show runS (.set x e) rs = .bad rs why from Er.rr_bad ew] at h
      exact h Ha dx (more ka) ex
  | iff e a b =>
    obtain ⟨p, v0, v1, v2, v3, rfl, ep, d0, d1, d2, d3⟩ := di.inv4
    cases d0.inv_str
    have dep' : max (bDep a) (bDep b) + 1 < n + 1 := dep
    refine ⟨_, rfl, p, _, _, rfl, ep, rfl, _, rfl, rfl, _, rfl, iF rfl ⟨_, rfl, rfl, _, rfl, iF rfl ⟨_, rfl, rfl, _, rfl, iF rfl ⟨_, rfl, rfl, _, rfl, iT rfl ?_⟩⟩⟩⟩
    refine ⟨_, rfl, r, dx0, _, _, rfl, er0, rfl, k0, dk0, [], rfl, .inr ⟨od0, ek0⟩, rfl, _, rfl, r, dx0, _, rfl, .inl er0, rfl, _, rfl, p, _, _, rfl, ep, rfl, r, d, l, rs, v1, e, rfl, d1, ra, so.1.mono ok.dom, ok.bnm, ans.of (fun j ej Ha ka => ⟨_, j, rfl, _, rfl, ?_⟩) fun why ew Ha dx ka ex => ?_⟩
    · have ra1 := ra.mono ka
      obtain ⟨dx1, k1, od1, dk1, er1, ek1⟩ := ra1.run
      have hres : runS (.iff e a b) rs = if j ≠ 0 then runL a rs else runL b rs := by
        rw [show runS (.iff e a b) rs = (ev rs.nv e).rr rs fun v => if v ≠ 0 then runL a rs else runL b rs from rfl, Er.rr_ok ej]
      rw [hres] at h
      by_cases z : j ≠ 0
      · rw [if_pos z] at h
        exact iT (decide_eq_true z) ⟨_, rfl, r, dx1, _, rfl, .inl er1, rfl, _, rfl, p, _, _, rfl, ka.tup _ _ ep, rfl, r, d, l, rs, D, v2, a, rfl, d2.mono ka, by omega, ra1, ok, so.2.1, h.mono (more ka)⟩
      · rw [if_neg z] at h
        exact iF (decide_eq_false z) ⟨_, rfl, r, dx1, _, rfl, .inl er1, rfl, _, rfl, p, _, _, rfl, ka.tup _ _ ep, rfl, r, d, l, rs, D, v3, b, rfl, d3.mono ka, by omega, ra1, ok, so.2.2, h.mono (more ka)⟩
    · rw [show runS (.iff e a b) rs = .bad rs why from Er.rr_bad ew] at h
      exact h Ha dx (more ka) ex
  | rep e a =>
    obtain ⟨p, v0, v1, v2, rfl, ep, d0, d1, d2⟩ := id di.inv3
    cases d0.inv_str
    have dep' : bDep a + 1 < n + 1 := dep
    refine ⟨_, rfl, p, _, _, rfl, ep, rfl, _, rfl, rfl, _, rfl, iF rfl ⟨_, rfl, rfl, _, rfl, iF rfl ⟨_, rfl, rfl, _, rfl, iF rfl ⟨_, rfl, rfl, _, rfl, iF rfl ⟨_, rfl, rfl, _, rfl, iT rfl ?_⟩⟩⟩⟩⟩
    exact ⟨_, rfl, r, dx0, _, rfl, .inl er0, rfl, _, rfl, r, d, l, rs, D, _, e, a, rfl, di, by omega, ra, ok, so, h⟩
  | send t m as =>
    obtain ⟨p, v0, v1, v2, v3, rfl, ep, d0, d1, d2, d3⟩ := id di.inv4
    cases d0.inv_str
    refine ⟨_, rfl, p, _, _, rfl, ep, rfl, _, rfl, rfl, _, rfl, iF rfl ⟨_, rfl, rfl, _, rfl, iF rfl ⟨_, rfl, rfl, _, rfl, iF rfl ⟨_, rfl, rfl, _, rfl, iF rfl ⟨_, rfl, rfl, _, rfl, iF rfl ?_⟩⟩⟩⟩⟩
    refine ⟨_, rfl, r, dx0, _, rfl, .inl er0, rfl, _, rfl, _, rfl, r, d, l, rs, D, _, _, _, rfl, rfl, di, ra, ok, so, rans.of (fun t et Hb kb rb => ?_) (fun t et => ?_) fun t why et Hb dx' kb ex => ?_⟩
    · rw [et] at h; exact h Hb kb rb
    · exact absurd et (deed_nostop (by rfl))
    · rw [et] at h; exact h Hb dx' kb ex
  | spawn kd as x =>
    obtain ⟨p, v0, v1, v2, v3, rfl, ep, d0, d1, d2, d3⟩ := id di.inv4
    cases d0.inv_str
    refine ⟨_, rfl, p, _, _, rfl, ep, rfl, _, rfl, rfl, _, rfl, iF rfl ⟨_, rfl, rfl, _, rfl, iF rfl ⟨_, rfl, rfl, _, rfl, iF rfl ⟨_, rfl, rfl, _, rfl, iF rfl ⟨_, rfl, rfl, _, rfl, iF rfl ?_⟩⟩⟩⟩⟩
    refine ⟨_, rfl, r, dx0, _, rfl, .inl er0, rfl, _, rfl, _, rfl, r, d, l, rs, D, _, _, _, rfl, rfl, di, ra, ok, so, rans.of (fun t et Hb kb rb => ?_) (fun t et => ?_) fun t why et Hb dx' kb ex => ?_⟩
    · rw [et] at h; exact h Hb kb rb
    · exact absurd et (deed_nostop (by rfl))
    · rw [et] at h; exact h Hb dx' kb ex
  | call f as m =>
    obtain ⟨p, v0, v1, v2, v3, rfl, ep, d0, d1, d2, d3⟩ := id di.inv4
    cases d0.inv_str
    refine ⟨_, rfl, p, _, _, rfl, ep, rfl, _, rfl, rfl, _, rfl, iF rfl ⟨_, rfl, rfl, _, rfl, iF rfl ⟨_, rfl, rfl, _, rfl, iF rfl ⟨_, rfl, rfl, _, rfl, iF rfl ⟨_, rfl, rfl, _, rfl, iF rfl ?_⟩⟩⟩⟩⟩
    refine ⟨_, rfl, r, dx0, _, rfl, .inl er0, rfl, _, rfl, _, rfl, r, d, l, rs, D, _, _, _, rfl, rfl, di, ra, ok, so, rans.of (fun t et Hb kb rb => ?_) (fun t et => ?_) fun t why et Hb dx' kb ex => ?_⟩
    · rw [et] at h; exact h Hb kb rb
    · exact absurd et (deed_nostop (by rfl))
    · rw [et] at h; exact h Hb dx' kb ex
theorem ok_go (T : Tx K mg) : ∀ n, FnOk P w K mg base (L2N.CX P w) (11 + 3 * n) (He.ma K (He.ga K "Run") "go_through") T.fd_Run_go_through P_Run_go_through (spGo K n)
  | 0 => fn_none fun _ _ _ _ ⟨_, _, _, _, _, _, _, _, _, h, _⟩ => Nat.not_lt_zero _ h
  | n + 1 => by
    have hgo := ok_go T n
    have hrep := rep_of T (by omega) hgo
    have hdo := do_of T (by omega) hgo hrep
    exact go_of T hdo
end
end Rk
/-! retroact.handlers: Outcome; a dict copied pair by pair. -/
namespace Rk
open PySem PySem.Spec PyProof.Rows L2 L2H
theorem dcB_list {d : Addr} {f : HO} {n : Nat} {pr : Nat → Hp → V → V → Prop} {g : TG} {tk tv : TE} {own : List Nat} {σ : L2.St} {Ha : Hp} {D : Addr} {Qd : Hp → Prop} {o0 : HO} (ho : o0 = HO.dK [] ∨ o0 = HO.dT []) (Pv : Nat → Hp → Prop) (h0 : Pv 0 (upd Ha D o0)) (hd : ∀ i Hb, Pv i Hb → Hb d = some f)
    (hs : ∀ i T kx vx Hb, i < n → Pv i Hb → pr i Hb kx vx → Hb T = none → g (.ref T) (wipe σ own) (upd Hb T (.tup [kx, vx])) fun σb Hd => wipe σb own = wipe σ own ∧ tk σb Hd fun y He => tv σb He fun z Hf => ∃ Hg, DPut Hf D y z Hg ∧ Pv (i + 1) Hg) (he : ∀ Hb, Pv n Hb → Qd Hb) :
    ∃ o0, (o0 = HO.dK [] ∨ o0 = HO.dT []) ∧ ∃ W : Nat → Nat → Hp → Prop, (∃ m, W 0 m (upd Ha D o0)) ∧ ∀ i m Hb, W i m Hb → ((ItP d f n pr).stop i Hb ∧ Qd Hb) ∨ ((ItP d f n pr).go i Hb ∧ ∃ Nx : Hp → Prop, (∀ Hz, Nx Hz → ∃ k, k < m ∧ W (i + 1) k Hz) ∧
      ∀ x Hz, (ItP d f n pr).yld i Hb x Hz → g x (wipe σ own) Hz fun σb Hd => wipe σb own = wipe σ own ∧ tk σb Hd fun y He => tv σb He fun z Hf => ∃ Hg, DPut Hf D y z Hg ∧ Nx Hg) := by
  refine ⟨o0, ho, fun i m Hb => m = n - i ∧ i ≤ n ∧ Pv i Hb, ⟨n, by simp, Nat.zero_le _, h0⟩, ?_⟩
  rintro i m Hb ⟨rfl, le, p⟩
  by_cases lt : i < n
  · exact .inr ⟨⟨hd i Hb p, lt⟩, Pv (i + 1), fun Hz pz => ⟨n - (i + 1), by omega, rfl, lt, pz⟩, fun x Hz ⟨T, kx, vx, hpr, ex, nT, eH⟩ => by subst ex eH; exact hs i T kx vx Hb lt p hpr nT⟩
  · have e : i = n := by omega
    subst e
    exact .inl ⟨⟨hd _ Hb p, Nat.le_refl _⟩, he Hb p⟩
theorem take_putN {n : Env} {i : Nat} {x : Str} {v : Int} (nd : (n.map (·.1)).Nodup) (h : n[i]? = some (x, v)) : putN (n.take i) x v = n.take (i + 1) := by
  have lt := (List.getElem?_eq_some_iff.mp h).1
  have no : x ∉ (n.take i).map (·.1) := by
    intro m
    obtain ⟨p, hp, e⟩ := List.mem_map.mp m
    obtain ⟨j, hj⟩ := List.mem_iff_getElem?.mp hp
    have jl : j < i := by
      have := (List.getElem?_eq_some_iff.mp hj).1
      rw [List.length_take] at this
      omega
    rw [List.getElem?_take_of_lt jl] at hj
    have a1 : (n.map (·.1))[j]? = some x := by rw [List.getElem?_map, hj]; exact congrArg some e
    have a2 : (n.map (·.1))[i]? = some x := by rw [List.getElem?_map, h]; rfl
    exact absurd (nodup_ix nd a1 a2) (by omega)
  rw [putN_new v no, List.take_add_one, h]
  rfl
/-- {name: value for name, value in d.items()}: the same pairs in a new dict -/
theorem dcB_copy {K : PySem.W.Frag} {d : Addr} {o : Obj} {env : Env} {σ : L2.St} {own : List Nat} {Ha : Hp} {D : Addr} {Qd : Hp → Prop} {a b : Nat} (nd : (env.map (·.1)).Nodup) (sz : env.length ≤ 1000) (ow : own = [a, b]) (nD : Ha D = none) (ed : Ha d = some (.frz o (.dK (dN env))))
    (wp : ∀ (i : Nat) (T : Addr) (kx vx : V) (Hb : Hp), (((wipe σ own).set a (some kx)).set b (some vx))[a]? = some (some kx) ∧ (((wipe σ own).set a (some kx)).set b (some vx))[b]? = some (some vx) ∧ wipe (((wipe σ own).set a (some kx)).set b (some vx)) own = wipe σ own)
    (he : ∀ Hb, Kp [] Ha Hb → Hb D = some (.dK (dN env)) → Qd Hb) :
    ∃ o0, (o0 = HO.dK [] ∨ o0 = HO.dT []) ∧ ∃ W : Nat → Nat → Hp → Prop, (∃ m, W 0 m (upd Ha D o0)) ∧ ∀ i m Hb, W i m Hb → ((ItP d (.frz o (.dK (dN env))) (dN env).length (prK (dN env))).stop i Hb ∧ Qd Hb) ∨ ((ItP d (.frz o (.dK (dN env))) (dN env).length (prK (dN env))).go i Hb ∧ ∃ Nx : Hp → Prop, (∀ Hz, Nx Hz → ∃ k, k < m ∧ W (i + 1) k Hz) ∧
      ∀ x Hz, (ItP d (.frz o (.dK (dN env))) (dN env).length (prK (dN env))).yld i Hb x Hz → gTup K 2 (gCons (gName a) (gCons (gName b) gNil)) x (wipe σ own) Hz fun σb Hd => wipe σb own = wipe σ own ∧ tVar a σb Hd fun y He => tVar b σb He fun z Hf => ∃ Hg, DPut Hf D y z Hg ∧ Nx Hg) := by
  refine dcB_list (.inl rfl) (fun i Hb => Kp [] Ha Hb ∧ Hb D = some (.dK (dN (env.take i)))) ⟨Kp.refl.new nD, upd_same⟩ (fun i Hb p => p.1.frz _ _ _ ed) (fun i T kx vx Hb lt ⟨kb, eD⟩ ⟨key, hk, ek⟩ nT => ?_) fun Hb ⟨kb, eD⟩ => he Hb kb (by
    have e : (dN env).length = env.length := List.length_map ..
    rw [e, List.take_length] at eD
    exact eD)
  obtain ⟨⟨x, v⟩, hx, exv⟩ : ∃ p, env[i]? = some p ∧ (Sum.inr p.1, V.int p.2) = ((key, vx) : Key × V) := by
    unfold dN at hk
    rw [List.getElem?_map] at hk
    cases q : env[i]? with
    | none => rw [q] at hk; cases hk
    | some p => rw [q] at hk; exact ⟨p, rfl, Option.some.inj hk⟩
  cases exv
  subst ek
  have hDT : D ≠ T := ne_of_none eD nT
  have eD2 : (upd Hb T (.tup [kV (.inr x), .int v])) D = some (.dK (dN (env.take i))) := (upd_ne hDT).trans eD
  have il : i < env.length := (List.getElem?_eq_some_iff.mp hx).1
  have lt2 : (dN (env.take i)).length < sizeLine := by unfold dN; rw [List.length_map, List.length_take, sizeLine_eq]; omega
  obtain ⟨w1, w3, w2⟩ := wp i T (kV (.inr x)) (.int v) Hb
  refine ⟨T, _, rfl, SqT.of upd_same, rfl, _, _, rfl, _, _, rfl, rfl, w2, _, w1, _, w3, _, DPut.k (k := .inr x) eD2 lt2, ?_, ?_⟩
  · exact ((kb.new nT).own nD)
  · rw [upd_same, putK_dN, take_putN nd hx]
section
variable {K : PySem.W.Frag} {mg : Str → Option Value} {P : Program} {w : World} {base : Heap}
def spOut (K : PySem.W.Frag) : Sp := fun vs H Q _ => ∃ o dx k sd od env ld xs rs, vs = [.ref o, k, .ref sd, .ref ld, rs] ∧ H o = some (.ins (He.ga K "Outcome") dx []) ∧ H sd = some (.frz od (.dK (dN env))) ∧ (env.map (·.1)).Nodup ∧ env.length ≤ 1000 ∧ (∀ Ha, Kp [o] H Ha → SqL K Ha ld xs) ∧
  ∀ Ha D oz l ol, Kp [o] H Ha → Ha o = some (.ins (He.ga K "Outcome") dx [("kind", k), ("states", .ref D), ("deeds", .ref l), ("reason", rs)]) → Ha D = some (.frz oz (.dK (dN env))) → Ha l = some (.frz ol (.lst xs)) → Q .non Ha
theorem ok_Outcome_init (T : Tx K mg) : FnOk P w K mg base (L2N.CX P w) 1 (He.ma K (He.ga K "Outcome") "__init__") T.fd_Outcome_init P_Outcome_init (spOut K) := by
  refine T.D_Outcome_init.ok sc_Outcome_init (fun vs H Q E h => by obtain ⟨o, dx, k, sd, od, env, ld, xs, rs, rfl, _⟩ := h; rfl) fun cdv A outer s H vs Q E hr h => ⟨_, (pss_cons (ps_fe T.c_Outcome T.n_Outcome_kind (pv 0) (pv 1))
    (pss_cons (ps_fe T.c_Outcome T.n_Outcome_states (pv 0) (pe_fz (pe_dcB (g := gTup K 2 (gCons (gName 5) (gCons (gName 6) gNil))) (tk := tVar 5) (tv := tVar 6) (own := [("name", 5), ("value", 6)]) (.inl rfl) (hu_of hr) sc_Outcome_init.nd (pi_pairs (pv 2)) (blkOk_by (own := [("name", 5), ("value", 6)]) (N := N_Outcome_init) (sc := defScope sOutcome_init) (by decide +kernel)) (fun _ _ _ _ _ => (pg_tupB (n := 2) (.inl rfl) (pgs_cons (pg_name (i := 5) sc_Outcome_init.nd rfl (.inl rfl) (hf := .inr rfl)) (pgs_cons (pg_name (i := 6) sc_Outcome_init.nd rfl (.inl rfl) (hf := .inr rfl)) pgs_nil)))) (fun _ _ _ _ _ => (pv 5)) (fun _ _ _ _ _ => (pv 6)))))
    (pss_cons (ps_fe T.c_Outcome T.n_Outcome_deeds (pv 0) (pe_fz (pe_callTy call_list_of (by rfl) T.f_list (by decide +kernel) (pa_cons (pv 3) pa_nil))))
    (pss_one (ps_fe T.c_Outcome T.n_Outcome_reason (pv 0) (pv 4)))))), ?_⟩
  obtain ⟨o, dx, k, sd, od, env, ld, xs, rs, rfl, eo, es, nd, sz, el, q⟩ := h
  refine ⟨_, rfl, _, rfl, o, dx, _, rfl, eo, (by decide : (0 : Nat) < 1000), ?_⟩
  have k1 : Kp [o] H (upd H o (.ins (He.ga K "Outcome") dx [("kind", k)])) := Kp.refl.wr (by simp) eo
  have s1 : (upd H o (.ins (He.ga K "Outcome") dx [("kind", k)])) o = some (.ins (He.ga K "Outcome") dx [("kind", k)]) := upd_same
  refine ⟨_, rfl, sd, od, rfl, .inl ⟨_, k1.frz _ _ _ es, fun D nD => dcB_copy nd sz rfl nD (k1.frz _ _ _ es) (fun i T kx vx Hb => ⟨rfl, rfl, rfl⟩) fun Hb kb eD => ?_⟩⟩
  have nD0 : H D = none := k1.dom _ nD
  have hoD : o ≠ D := fun z => by rw [z, nD0] at eo; cases eo
  refine ⟨D, _, eD, True.intro, fun oz => ?_⟩
  have k2 : Kp [o] H (upd Hb D (.frz oz (.dK (dN env)))) := (k1.then0 kb).own nD0
  have s2 : (upd Hb D (.frz oz (.dK (dN env)))) o = some (.ins (He.ga K "Outcome") dx [("kind", k)]) := (upd_ne hoD).trans (kb.same _ _ s1)
  refine ⟨_, rfl, o, dx, _, rfl, s2, (by decide : (1 : Nat) < 1000), ?_⟩
  have k3 : Kp [o] H (upd (upd Hb D (.frz oz (.dK (dN env)))) o (.ins (He.ga K "Outcome") dx [("kind", k), ("states", .ref D)])) := k2.wr (by simp) s2
  refine ⟨_, rfl, ld, xs, rfl, .inl (el _ k3), fun l nl => ⟨l, _, upd_same, True.intro, fun ol => ⟨_, rfl, o, dx, _, rfl, (upd_ne (ne_of_none upd_same nl)).trans ((upd_ne (ne_of_none upd_same nl)).trans upd_same), (by decide : (2 : Nat) < 1000), ?_⟩⟩⟩
  have hlo : l ≠ o := fun z => by rw [z, upd_same] at nl; cases nl
  have nl0 : H l = none := k3.dom _ nl
  have k4 : Kp [o] H (upd (upd (upd (upd (upd Hb D (.frz oz (.dK (dN env)))) o (.ins (He.ga K "Outcome") dx [("kind", k), ("states", .ref D)])) l (.lst xs)) l (.frz ol (.lst xs))) o (.ins (He.ga K "Outcome") dx [("kind", k), ("states", .ref D), ("deeds", .ref l)])) :=
    (((k3.new nl).own nl0).wr (by simp) ((upd_ne (Ne.symm hlo)).trans ((upd_ne (Ne.symm hlo)).trans upd_same)))
  refine ⟨_, rfl, _, rfl, o, dx, _, rfl, upd_same, (by decide : (3 : Nat) < 1000), ?_⟩
  refine q _ D oz l ol (k4.wr (by simp) upd_same) upd_same ?_ ?_
  · have hDl : D ≠ l := fun z => by rw [← z, upd_ne (Ne.symm hoD), upd_same] at nl; cases nl
    rw [upd_ne (Ne.symm hoD), upd_ne (Ne.symm hoD), upd_ne hDl, upd_ne hDl, upd_ne (Ne.symm hoD), upd_same]
  · rw [upd_ne hlo, upd_ne hlo, upd_same]
theorem okH_Outcome_init (T : Tx K mg) : FnH P w K mg base (L2N.CX P w) 1 (He.ma K (He.ga K "Outcome") "__init__") T.fd_Outcome_init P_Outcome_init (spOut K) := by
  obtain ⟨oc, odd, dV, kV, doc, pm, an, cdv, ct, osl, efd, lk, hcd, _, _⟩ := T.D_Outcome_init.ex
  rw [efd]
  rw [efd] at lk
  refine fn_ofH lk hcd sc_Outcome_init (fun vs H Q E h => by obtain ⟨o, dx, k, sd, od, env, ld, xs, rs, rfl, _⟩ := h; rfl) fun A outer s H vs Q E p hot hr h => ⟨_, (pss_cons (ps_fe T.c_Outcome T.n_Outcome_kind (pv 0) (pv 1))
    (pss_cons (ps_fe T.c_Outcome T.n_Outcome_states (pv 0) (pe_fz (pe_dcB (g := gTup K 2 (gCons (gName 5) (gCons (gName 6) gNil))) (tk := tVar 5) (tv := tVar 6) (own := [("name", 5), ("value", 6)]) (.inr ⟨p, ⟨hot.1, hot.2⟩, List.mem_cons_self⟩) (Nat.lt_of_le_of_lt (Nat.add_le_add_left (by decide) _) hr.un) sc_Outcome_init.nd (pi_pairs (pv 2)) (blkOk_by (own := [("name", 5), ("value", 6)]) (N := N_Outcome_init) (sc := defScope sOutcome_init) (by decide +kernel)) (fun _ _ _ _ _ => (pg_tupB (n := 2) (.inr ⟨p, ⟨hot.1, hot.2⟩, List.mem_cons_self⟩) (pgs_cons (pg_name (i := 5) sc_Outcome_init.nd rfl (.inl rfl) (hf := .inr rfl)) (pgs_cons (pg_name (i := 6) sc_Outcome_init.nd rfl (.inl rfl) (hf := .inr rfl)) pgs_nil)))) (fun _ _ _ _ _ => (pv 5)) (fun _ _ _ _ _ => (pv 6)))))
    (pss_cons (ps_fe T.c_Outcome T.n_Outcome_deeds (pv 0) (pe_fz (pe_callTy call_list_of (by rfl) T.f_list (by decide +kernel) (pa_cons (pv 3) pa_nil))))
    (pss_one (ps_fe T.c_Outcome T.n_Outcome_reason (pv 0) (pv 4)))))), ?_⟩
  obtain ⟨o, dx, k, sd, od, env, ld, xs, rs, rfl, eo, es, nd, sz, el, q⟩ := h
  refine ⟨_, rfl, _, rfl, o, dx, _, rfl, eo, (by decide : (0 : Nat) < 1000), ?_⟩
  have k1 : Kp [o] H (upd H o (.ins (He.ga K "Outcome") dx [("kind", k)])) := Kp.refl.wr (by simp) eo
  have s1 : (upd H o (.ins (He.ga K "Outcome") dx [("kind", k)])) o = some (.ins (He.ga K "Outcome") dx [("kind", k)]) := upd_same
  refine ⟨_, rfl, sd, od, rfl, .inl ⟨_, k1.frz _ _ _ es, fun D nD => dcB_copy nd sz rfl nD (k1.frz _ _ _ es) (fun i T kx vx Hb => ⟨rfl, rfl, rfl⟩) fun Hb kb eD => ?_⟩⟩
  have nD0 : H D = none := k1.dom _ nD
  have hoD : o ≠ D := fun z => by rw [z, nD0] at eo; cases eo
  refine ⟨D, _, eD, True.intro, fun oz => ?_⟩
  have k2 : Kp [o] H (upd Hb D (.frz oz (.dK (dN env)))) := (k1.then0 kb).own nD0
  have s2 : (upd Hb D (.frz oz (.dK (dN env)))) o = some (.ins (He.ga K "Outcome") dx [("kind", k)]) := (upd_ne hoD).trans (kb.same _ _ s1)
  refine ⟨_, rfl, o, dx, _, rfl, s2, (by decide : (1 : Nat) < 1000), ?_⟩
  have k3 : Kp [o] H (upd (upd Hb D (.frz oz (.dK (dN env)))) o (.ins (He.ga K "Outcome") dx [("kind", k), ("states", .ref D)])) := k2.wr (by simp) s2
  refine ⟨_, rfl, ld, xs, rfl, .inl (el _ k3), fun l nl => ⟨l, _, upd_same, True.intro, fun ol => ⟨_, rfl, o, dx, _, rfl, (upd_ne (ne_of_none upd_same nl)).trans ((upd_ne (ne_of_none upd_same nl)).trans upd_same), (by decide : (2 : Nat) < 1000), ?_⟩⟩⟩
  have hlo : l ≠ o := fun z => by rw [z, upd_same] at nl; cases nl
  have nl0 : H l = none := k3.dom _ nl
  have k4 : Kp [o] H (upd (upd (upd (upd (upd Hb D (.frz oz (.dK (dN env)))) o (.ins (He.ga K "Outcome") dx [("kind", k), ("states", .ref D)])) l (.lst xs)) l (.frz ol (.lst xs))) o (.ins (He.ga K "Outcome") dx [("kind", k), ("states", .ref D), ("deeds", .ref l)])) :=
    (((k3.new nl).own nl0).wr (by simp) ((upd_ne (Ne.symm hlo)).trans ((upd_ne (Ne.symm hlo)).trans upd_same)))
  refine ⟨_, rfl, _, rfl, o, dx, _, rfl, upd_same, (by decide : (3 : Nat) < 1000), ?_⟩
  refine q _ D oz l ol (k4.wr (by simp) upd_same) upd_same ?_ ?_
  · have hDl : D ≠ l := fun z => by rw [← z, upd_ne (Ne.symm hoD), upd_same] at nl; cases nl
    rw [upd_ne (Ne.symm hoD), upd_ne (Ne.symm hoD), upd_ne hDl, upd_ne hDl, upd_ne (Ne.symm hoD), upd_same]
  · rw [upd_ne hlo, upd_ne hlo, upd_same]
theorem Tx.b5_Outcome_init (T : Tx K mg) : Binds K T.fd_Outcome_init P_Outcome_init [] := by
  obtain ⟨ds, v, b⟩ := T.D_Outcome_init.binds1 (ps := P_Outcome_init) 5 1 (by simp) rfl fun Tt kV doc pm an cdv ct us its h1 h2 => match us, h1, its, h2 with
    | [_, _, _, _, _], _, [_], _ => ⟨_, rfl, rfl⟩
  cases v
  exact b
theorem Tx.b4_Outcome_init (T : Tx K mg) : ∃ ds, Vals [.non] ds ∧ Binds K T.fd_Outcome_init P_Outcome_init ds :=
  T.D_Outcome_init.binds1 (ps := P_Outcome_init) 4 0 (by simp) rfl fun Tt kV doc pm an cdv ct us its h1 h2 => match us, h1, its, h2 with
    | [_, _, _, _], _, [_], _ => ⟨_, rfl, rfl⟩
end
end Rk
/-! retroact.handlers: _names_set, locals_of. -/
namespace Rk
open PySem PySem.Spec PyProof.Rows L2
mutual
def nsS : St → List Str
  | .set x _ => [x]
  | .spawn _ _ x => [x]
  | .iff _ a b => nsL a ++ nsL b
  | .rep _ a => nsL a
  | _ => []
def nsL : List St → List Str
  | [] => []
  | s :: r => nsS s ++ nsL r
end
theorem nsL_drop {b : List St} {i : Nat} {st : St} (h : b[i]? = some st) : nsL (b.drop i) = nsS st ++ nsL (b.drop (i + 1)) := by
  obtain ⟨lt, e⟩ := List.getElem?_eq_some_iff.mp h
  rw [List.drop_eq_getElem_cons lt, e]
  rfl
theorem small {n : Nat} (h : n ≤ 100000) : n ≤ sizeLine := by rw [sizeLine_eq]; omega
theorem small' {n : Nat} (h : n ≤ 100000) : n < sizeLine := by rw [sizeLine_eq]; omega
section
variable {K : PySem.W.Frag} {mg : Str → Option Value} {P : Program} {w : World} {base : Heap}
def spNs (n : Nat) : Sp := fun vs H Q _ => ∃ v b, vs = [v] ∧ Di H v (.list (bdD b)) ∧ bDep b < n ∧ (nsL b).length ≤ 1000 ∧ ∀ Ha f, Kp [] H Ha → H f = none → Ha f = some (.lst ((nsL b).map V.str)) → Q (.ref f) Ha
theorem ns_of (T : Tx K mg) {n k : Nat} (ih : FnOk P w K mg base (L2N.CX P w) k (He.ga K "_names_set") T.fd_names_set P_names_set (spNs n)) : FnOk P w K mg base (L2N.CX P w) (k + 1) (He.ga K "_names_set") T.fd_names_set P_names_set (spNs (n + 1)) := by
  refine T.D_names_set.ok sc_names_set (fun vs H Q E h => by obtain ⟨v, b, rfl, _⟩ := h; rfl) fun cdv A outer s H vs Q E hr h => ⟨_, (pss_cons (ps_set (i := 1) sc_names_set.nd rfl (.inl rfl) (pe_lst pa_nil))
    (pss_cons (ps_for PassesOwn.leaving rfl (pi_list (pv 0)) (pg_name (i := 2) sc_names_set.nd rfl (.inl rfl))
    (pss_one (ps_if (pt_cmpR op_eq (pe_ti (pv 2)) pe_str (nomark _))
    (pss_one (ps_expr (pe_bm PySem.F.plainAttrs_list PySem.F.slot_list_append PySem.F.type_list_append mt_append (pv 1) (pa_cons (pe_ti (pv 2)) pa_nil))))
    (pss_one (ps_if (pt_cmpR op_eq (pe_ti (pv 2)) pe_str (nomark _))
    (pss_one (ps_expr (pe_bm PySem.F.plainAttrs_list PySem.F.slot_list_append PySem.F.type_list_append mt_append (pv 1) (pa_cons (pe_ti (pv 2)) pa_nil))))
    (pss_one (ps_if (pt_cmpR op_eq (pe_ti (pv 2)) pe_str (nomark _))
    (pss_one (ps_set (i := 1) sc_names_set.nd rfl (.inl rfl) (pe_op op_catL (pe_op op_catL (pv 1) (pe_callS ih hr rfl T.g__names_set T.p_names_set T.b_names_set (fun σ => L2N.passAt (L2N.takes_of rfl rfl rfl rfl) σ) (pa_cons (pe_ti (pv 2)) pa_nil))) (pe_callS ih hr rfl T.g__names_set T.p_names_set T.b_names_set (fun σ => L2N.passAt (L2N.takes_of rfl rfl rfl rfl) σ) (pa_cons (pe_ti (pv 2)) pa_nil)))))
    (pss_one (ps_if (pt_cmpR op_eq (pe_ti (pv 2)) pe_str (nomark _))
    (pss_one (ps_set (i := 1) sc_names_set.nd rfl (.inl rfl) (pe_op op_catL (pv 1) (pe_callS ih hr rfl T.g__names_set T.p_names_set T.b_names_set (fun σ => L2N.passAt (L2N.takes_of rfl rfl rfl rfl) σ) (pa_cons (pe_ti (pv 2)) pa_nil)))))
    pss_nil)))))))))
    (pss_one (ps_ret (pv 1))))), ?_⟩
  obtain ⟨v, b, rfl, di, dep, sz, q⟩ := h
  obtain ⟨a, o, xs, rfl, ea, dl⟩ := di.inv_lst
  have len : xs.length = b.length := by rw [dl.length, bdD_length]
  refine ⟨Nat.zero_le _, fun f0 nf0 => ⟨_, rfl, a, rfl, ⟨xs, .inl (.inr ⟨o, (upd_ne (ne_of_none ea nf0)).trans ea⟩)⟩, for_list (xs := xs) (fun i σ Ha => ∃ f tv ns, σ = [some (.ref a), some (.ref f), tv] ∧ H f = none ∧ Kp [] H Ha ∧ Ha f = some (.lst (ns.map V.str)) ∧ nsL b = ns ++ nsL (b.drop i)) ⟨f0, none, [], rfl, nf0, Kp.refl.new nf0, upd_same, rfl⟩ (fun i σ Ha _ ⟨_, _, _, _, _, ka, _⟩ => .inl (.inr ⟨o, ka.frz _ _ _ ea⟩)) (fun i x σ Ha hx ⟨f, tv, ns, eσ, nf, ka, ef, hb⟩ => ?_) fun σ Ha ⟨f, tv, ns, eσ, nf, ka, ef, hb⟩ => ?_⟩⟩
  · subst eσ
    obtain ⟨de, hde, dx⟩ := dl.at' hx
    rw [bdD_at] at hde
    obtain ⟨st, hst, rfl⟩ : ∃ st, b[i]? = some st ∧ stD st = de := by
      cases q : b[i]? with
      | none => rw [q] at hde; cases hde
      | some e => rw [q] at hde; exact ⟨e, rfl, Option.some.inj hde⟩
    rw [nsL_drop hst] at hb
    have sd := bDep_at dep hst
    have dx := dx.mono ka
    have len1 : ns.length + (nsS st).length ≤ 1000 := by
      have := congrArg List.length hb
      rw [List.length_append, List.length_append] at this
      omega
    have app : ∀ y : Str, nsS st = [y] → (upd Ha f (.lst (ns.map V.str ++ [.str y]))) f = some (.lst ((ns ++ [y]).map V.str)) := fun y _ => by rw [upd_same, List.map_append]; rfl
    refine ⟨_, rfl, ?_⟩
    cases st with
    | set x e =>
      obtain ⟨p, v0, v1, v2, rfl, ep, d0, d1, d2⟩ := dx.inv3
      cases d0.inv_str
      cases d1.inv_str
      refine ⟨p, _, _, rfl, ep, rfl, rfl, _, rfl, iT rfl ⟨_, rfl, .inl ⟨rfl, _, SqL.of ef⟩, _, rfl, p, _, _, rfl, ep, rfl, ?_⟩⟩
      refine ⟨f, _, _, rfl, rfl, ef, by rw [List.length_map]; exact small' (by omega), f, _, ns ++ [x], rfl, nf, ka.own nf, app x rfl, by rw [hb]; simp [nsS]⟩
    | spawn kd as x =>
      obtain ⟨p, v0, v1, v2, v3, rfl, ep, d0, d1, d2, d3⟩ := dx.inv4
      cases d0.inv_str
      cases d3.inv_str
      refine ⟨p, _, _, rfl, ep, rfl, rfl, _, rfl, iF rfl ⟨_, rfl, p, _, _, rfl, ep, rfl, rfl, _, rfl, iT rfl ⟨_, rfl, .inl ⟨rfl, _, SqL.of ef⟩, _, rfl, p, _, _, rfl, ep, rfl, ?_⟩⟩⟩
      refine ⟨f, _, _, rfl, rfl, ef, by rw [List.length_map]; exact small' (by omega), f, _, ns ++ [x], rfl, nf, ka.own nf, app x rfl, by rw [hb]; simp [nsS]⟩
    | iff e a1 b1 =>
      obtain ⟨p, v0, v1, v2, v3, rfl, ep, d0, d1, d2, d3⟩ := dx.inv4
      cases d0.inv_str
      have l2 : (nsL a1).length + (nsL b1).length + ns.length ≤ 1000 := by
        have : (nsS (.iff e a1 b1)).length = (nsL a1).length + (nsL b1).length := by simp [nsS]
        omega
      have dp : max (bDep a1) (bDep b1) + 1 < n + 1 := sd
      refine ⟨p, _, _, rfl, ep, rfl, rfl, _, rfl, iF rfl ⟨_, rfl, p, _, _, rfl, ep, rfl, rfl, _, rfl, iF rfl ⟨_, rfl, p, _, _, rfl, ep, rfl, rfl, _, rfl, iT rfl ⟨_, rfl, _, rfl, p, _, _, rfl, ep, rfl, v2, a1, rfl, d2, by omega, by omega, fun Hb fb kb nfb efb => ?_⟩⟩⟩⟩
      have k1 := ka.trans kb
      refine ⟨f, fb, _, _, rfl, rfl, .inl (kb.same _ _ ef), .inl efb, by rw [List.length_map, List.length_map]; exact small (by omega), fun g ng => ⟨_, rfl, p, _, _, rfl, (Kp.refl (L := []).new ng).tup _ _ (kb.tup _ _ ep), rfl, v3, b1, rfl, (d3.mono kb).mono (Kp.refl (L := []).new ng), by omega, by omega, fun Hc fc kc nfc efc => ?_⟩⟩
      refine ⟨g, fc, _, _, rfl, rfl, .inl (kc.same _ _ upd_same), .inl efc, by rw [List.length_append, List.length_map, List.length_map, List.length_map]; exact small (by omega), fun h nh => ⟨h, _, ns ++ nsL a1 ++ nsL b1, rfl, ?_, ?_, ?_, ?_⟩⟩
      · exact ((k1.new ng).trans kc).dom _ nh
      · exact (((k1.new ng).trans kc).new nh)
      · rw [upd_same, List.map_append, List.map_append]
      · rw [hb]; simp [nsS]
    | rep e a1 =>
      obtain ⟨p, v0, v1, v2, rfl, ep, d0, d1, d2⟩ := dx.inv3
      cases d0.inv_str
      have l2 : (nsL a1).length + ns.length ≤ 1000 := by
        have : (nsS (.rep e a1)).length = (nsL a1).length := by simp [nsS]
        omega
      have dp : bDep a1 + 1 < n + 1 := sd
      refine ⟨p, _, _, rfl, ep, rfl, rfl, _, rfl, iF rfl ⟨_, rfl, p, _, _, rfl, ep, rfl, rfl, _, rfl, iF rfl ⟨_, rfl, p, _, _, rfl, ep, rfl, rfl, _, rfl, iF rfl ⟨_, rfl, p, _, _, rfl, ep, rfl, rfl, _, rfl, iT rfl ⟨_, rfl, _, rfl, p, _, _, rfl, ep, rfl, v2, a1, rfl, d2, by omega, by omega, fun Hb fb kb nfb efb => ?_⟩⟩⟩⟩⟩
      refine ⟨f, fb, _, _, rfl, rfl, .inl (kb.same _ _ ef), .inl efb, by rw [List.length_map, List.length_map]; exact small (by omega), fun h nh => ⟨h, _, ns ++ nsL a1, rfl, (ka.trans kb).dom _ nh, (ka.trans kb).new nh, ?_, ?_⟩⟩
      · rw [upd_same, List.map_append]
      · rw [hb]; simp [nsS]
    | send t m as =>
      obtain ⟨p, v0, v1, v2, v3, rfl, ep, d0, d1, d2, d3⟩ := dx.inv4
      cases d0.inv_str
      refine ⟨p, _, _, rfl, ep, rfl, rfl, _, rfl, iF rfl ⟨_, rfl, p, _, _, rfl, ep, rfl, rfl, _, rfl, iF rfl ⟨_, rfl, p, _, _, rfl, ep, rfl, rfl, _, rfl, iF rfl ⟨_, rfl, p, _, _, rfl, ep, rfl, rfl, _, rfl, iF rfl ⟨f, _, ns, rfl, nf, ka, ef, by rw [hb]; rfl⟩⟩⟩⟩⟩
    | call fn as m =>
      obtain ⟨p, v0, v1, v2, v3, rfl, ep, d0, d1, d2, d3⟩ := dx.inv4
      cases d0.inv_str
      refine ⟨p, _, _, rfl, ep, rfl, rfl, _, rfl, iF rfl ⟨_, rfl, p, _, _, rfl, ep, rfl, rfl, _, rfl, iF rfl ⟨_, rfl, p, _, _, rfl, ep, rfl, rfl, _, rfl, iF rfl ⟨_, rfl, p, _, _, rfl, ep, rfl, rfl, _, rfl, iF rfl ⟨f, _, ns, rfl, nf, ka, ef, by rw [hb]; rfl⟩⟩⟩⟩⟩
    | stop =>
      obtain ⟨p, v0, rfl, ep, d0⟩ := dx.inv1
      cases d0.inv_str
      refine ⟨p, _, _, rfl, ep, rfl, rfl, _, rfl, iF rfl ⟨_, rfl, p, _, _, rfl, ep, rfl, rfl, _, rfl, iF rfl ⟨_, rfl, p, _, _, rfl, ep, rfl, rfl, _, rfl, iF rfl ⟨_, rfl, p, _, _, rfl, ep, rfl, rfl, _, rfl, iF rfl ⟨f, _, ns, rfl, nf, ka, ef, by rw [hb]; rfl⟩⟩⟩⟩⟩
    | fail =>
      obtain ⟨p, v0, rfl, ep, d0⟩ := dx.inv1
      cases d0.inv_str
      refine ⟨p, _, _, rfl, ep, rfl, rfl, _, rfl, iF rfl ⟨_, rfl, p, _, _, rfl, ep, rfl, rfl, _, rfl, iF rfl ⟨_, rfl, p, _, _, rfl, ep, rfl, rfl, _, rfl, iF rfl ⟨_, rfl, p, _, _, rfl, ep, rfl, rfl, _, rfl, iF rfl ⟨f, _, ns, rfl, nf, ka, ef, by rw [hb]; rfl⟩⟩⟩⟩⟩
  · subst eσ
    rw [len, List.drop_length] at hb
    rw [show nsL b = ns from by rw [hb]; exact List.append_nil _] at q
    exact ⟨_, rfl, q Ha f ka nf ef⟩
theorem ok_names_set (T : Tx K mg) : ∀ n, FnOk P w K mg base (L2N.CX P w) (1 + n) (He.ga K "_names_set") T.fd_names_set P_names_set (spNs n)
  | 0 => fn_none fun _ _ _ _ ⟨_, _, _, _, h, _⟩ => Nat.not_lt_zero _ h
  | n + 1 => ns_of T (ok_names_set T n)
end
end Rk
/-! retroact.handlers: locals_of. -/
namespace Rk
open PySem PySem.Spec PyProof.Rows L2
theorem inV_strs (x : Str) : ∀ ys : List Str, inV (.str x) (ys.map V.str) = decide (x ∈ ys)
  | [] => rfl
  | y :: ys => by
    show (eqV (.str y) (.str x) || inV (.str x) (ys.map V.str)) = _
    rw [inV_strs x ys]
    have e : eqV (.str y) (.str x) = decide (y = x) := by
      show (y == x) = _
      by_cases q : y = x <;> simp [q]
    rw [e]
    by_cases q : y = x
    · simp [q]
    · have q2 : ¬ x = y := fun z => q z.symm
      simp [q, q2]
theorem flat_strs : ∀ ys : List Str, (ys.map V.str).all flatV = true
  | [] => rfl
  | y :: ys => by
    rw [List.map_cons, List.all_cons, flat_strs ys]
    rfl
section
variable {K : PySem.W.Frag} {mg : Str → Option Value} {P : Program} {w : World} {base : Heap}
def spLo (K : PySem.W.Frag) (n : Nat) : Sp := fun vs H Q _ => ∃ v b kd, ∃ ks : List Str, vs = [v, .ref kd] ∧ Di H v (.list (bdD b)) ∧ bDep b < n ∧ (nsL b).length < 64 ∧ SqL K H kd (ks.map V.str) ∧ (∀ Ha, Kp [] H Ha → SqL K Ha kd (ks.map V.str)) ∧
  ∀ Ha f, ∀ ys : List Str, Kp [] H Ha → H f = none → Ha f = some (.lst (ys.map V.str)) → ys.length < 64 → (∀ x, x ∈ ys ↔ x ∈ nsL b ∧ x ∉ ks) → Q (.ref f) Ha
theorem ok_locals_of (T : Tx K mg) (n : Nat) : FnOk P w K mg base (L2N.CX P w) (2 + n) (He.ga K "locals_of") T.fd_locals_of P_locals_of (spLo K n) := by
  have lv : 2 + n = (1 + n) + 1 := by omega
  rw [lv]
  refine T.D_locals_of.ok sc_locals_of (fun vs H Q E h => by obtain ⟨v, b, kd, ks, rfl, _⟩ := h; rfl) fun cdv A outer s H vs Q E hr h => ⟨_, (pss_cons (ps_set (i := 2) sc_locals_of.nd rfl (.inl rfl) (pe_lst pa_nil))
    (pss_cons (ps_for PassesOwn.leaving rfl (pi_list (pe_callS (ok_names_set T n) hr rfl T.g__names_set T.p_names_set T.b_names_set (fun σ => L2N.passAt (L2N.takes_of rfl rfl rfl rfl) σ) (pa_cons (pv 0) pa_nil))) (pg_name (i := 3) sc_locals_of.nd rfl (.inl rfl))
    (pss_one (ps_if (PW.pt (pw_and (pt_cmpR op_notIn_seq (pv 3) (pv 1) (by rfl)) (pw_and1 (pt_cmpR op_notIn_seq (pv 3) (pv 2) (by rfl)))))
    (pss_one (ps_expr (pe_bm PySem.F.plainAttrs_list PySem.F.slot_list_append PySem.F.type_list_append mt_append (pv 2) (pa_cons (pv 3) pa_nil))))
    pss_nil)))
    (pss_one (ps_ret (pe_callB cr_sortedS (by rfl) T.f_sorted (by decide +kernel) (pa_cons (pv 2) pa_nil)))))), ?_⟩
  obtain ⟨v, b, kd, ks, rfl, di, dep, sz, ek, ekm, q⟩ := h
  refine ⟨Nat.zero_le _, fun f nf => ⟨_, rfl, v, b, rfl, di.mono (Kp.refl (L := []).new nf), dep, by omega, fun Hb p kb np ep => ?_⟩⟩
  have k0 : Kp [] H Hb := (Kp.refl.new nf).trans kb
  have hfp : f ≠ p := fun z => by rw [z] at np; rw [upd_same] at np; cases np
  have np0 : H p = none := (Kp.refl (L := []).new nf).dom _ np
  refine ⟨p, rfl, ⟨_, SqL.of ep⟩, for_list (xs := (nsL b).map V.str) (fun i σ Ha => ∃ tv, ∃ fs : List Str, σ = [some v, some (.ref kd), some (.ref f), tv] ∧ Kp [] H Ha ∧ Ha f = some (.lst (fs.map V.str)) ∧ Ha p = some (.lst ((nsL b).map V.str)) ∧ fs.length ≤ i ∧ ∀ x, x ∈ fs ↔ x ∈ (nsL b).take i ∧ x ∉ ks) ⟨none, [], rfl, k0, kb.same _ _ upd_same, ep, Nat.le_refl _, fun x => by simp⟩ (fun i σ Ha _ ⟨_, _, _, _, _, e, _⟩ => SqL.of e) (fun i x σ Ha hx ⟨tv, fs, eσ, ka, ef, ep, fl, hm⟩ => ?_) fun σ Ha ⟨tv, fs, eσ, ka, ef, ep, fl, hm⟩ => ?_⟩
  · subst eσ
    rw [List.getElem?_map] at hx
    obtain ⟨y, hy, rfl⟩ : ∃ y, (nsL b)[i]? = some y ∧ V.str y = x := by
      cases q : (nsL b)[i]? with
      | none => rw [q] at hx; cases hx
      | some e => rw [q] at hx; exact ⟨e, rfl, Option.some.inj hx⟩
    have il : i < (nsL b).length := (List.getElem?_eq_some_iff.mp hy).1
    have tk : (nsL b).take (i + 1) = (nsL b).take i ++ [y] := by rw [List.take_add_one, hy]; rfl
    have old : (y ∈ ks ∨ y ∈ fs) → ∀ x, x ∈ fs ↔ x ∈ (nsL b).take (i + 1) ∧ x ∉ ks := fun h x => by
      rw [tk, List.mem_append, List.mem_singleton, hm x]
      constructor
      · exact fun ⟨a, b⟩ => ⟨.inl a, b⟩
      · rintro ⟨a | a, b⟩
        · exact ⟨a, b⟩
        · subst a
          exact h.elim (fun z => absurd z b) fun z => (hm x).mp z
    have stay : (y ∈ ks ∨ y ∈ fs) → ∃ tv, ∃ fs : List Str, [some v, some (.ref kd), some (.ref f), some (V.str y)] = [some v, some (.ref kd), some (.ref f), tv] ∧ Kp [] H Ha ∧ Ha f = some (.lst (fs.map V.str)) ∧ Ha p = some (.lst ((nsL b).map V.str)) ∧ fs.length ≤ i + 1 ∧ ∀ x, x ∈ fs ↔ x ∈ (nsL b).take (i + 1) ∧ x ∉ ks := fun h => ⟨_, fs, rfl, ka, ef, ep, by omega, old h⟩
    refine ⟨_, rfl, ?_⟩
    refine ⟨_, rfl, kd, _, rfl, .inl (ekm _ ka), rfl, flat_strs ks, ?_⟩
    rw [inV_strs]
    by_cases m1 : y ∈ ks
    · refine ⟨_, rfl, iF (by show (!decide (y ∈ ks)) = false; simp [m1]) ?_⟩
      exact stay (.inl m1)
    · refine ⟨_, rfl, iT (by show (!decide (y ∈ ks)) = true; simp [m1]) ?_⟩
      refine ⟨_, rfl, _, rfl, f, _, rfl, .inl (SqL.of ef), rfl, flat_strs fs, ?_⟩
      rw [inV_strs]
      by_cases m2 : y ∈ fs
      · refine ⟨_, rfl, iF (by show (!decide (y ∈ fs)) = false; simp [m2]) ?_⟩
        exact stay (.inr m2)
      · refine ⟨_, rfl, iT (by show (!decide (y ∈ fs)) = true; simp [m2]) ?_⟩
        refine ⟨_, rfl, .inl ⟨rfl, _, SqL.of ef⟩, _, rfl, f, _, _, rfl, rfl, ef, by rw [List.length_map]; exact small' (by omega), _, fs ++ [y], rfl, ka.own nf, by rw [upd_same, List.map_append]; rfl, (upd_ne (Ne.symm hfp)).trans ep, by rw [List.length_append]; simp only [List.length_cons, List.length_nil]; omega, fun x => ?_⟩
        rw [tk, List.mem_append, List.mem_append, List.mem_singleton, hm x]
        constructor
        · rintro (⟨a, b⟩ | a)
          · exact ⟨.inl a, b⟩
          · subst a; exact ⟨.inr rfl, m1⟩
        · rintro ⟨a | a, b⟩
          · exact .inl ⟨a, b⟩
          · exact .inr a
  · subst eσ
    rw [List.length_map] at fl hm
    rw [List.take_length] at hm
    refine ⟨_, rfl, f, fs, rfl, SqL.of ef, by omega, fun ys g pm _ ng => ?_⟩
    exact q _ g ys (ka.new ng) (ka.dom _ ng) upd_same (by rw [pm.length_eq]; omega) fun x => (pm.mem_iff).trans (hm x)
end
end Rk
/-! Rows of names and values: plain laws. Actors; how one is born. -/
namespace Rk
open PySem PySem.Spec PyProof.Rows L2
theorem mem_putN {n : Env} {x y : Str} {i : Int} : y ∈ (putN n x i).map (·.1) ↔ y = x ∨ y ∈ n.map (·.1) := by
  by_cases h : x ∈ n.map (·.1)
  · rw [keys_putN_old i h]
    constructor
    · exact .inr
    · rintro (rfl | q)
      · exact h
      · exact q
  · rw [putN_new i h, List.map_append, List.mem_append]
    simp only [List.map_cons, List.map_nil, List.mem_singleton]
    exact Or.comm
theorem len_putN (n : Env) (x : Str) (i : Int) : (putN n x i).length ≤ n.length + 1 := by
  unfold putN
  split
  · rw [List.length_map]; omega
  · rw [List.length_append]; simp
theorem nd_putN {n : Env} (x : Str) (i : Int) (h : (n.map (·.1)).Nodup) : ((putN n x i).map (·.1)).Nodup := by
  by_cases m : x ∈ n.map (·.1)
  · rw [keys_putN_old i m]; exact h
  · rw [putN_new i m, List.map_append]
    refine List.nodup_append.mpr ⟨h, by simp, fun a ha b hb e => ?_⟩
    simp only [List.map_cons, List.map_nil, List.mem_singleton] at hb
    exact m (by rw [← hb, ← e]; exact ha)
def BEnv (n : Env) : Prop := ∀ p ∈ n, Bv p.2
theorem BEnv.nm {n : Env} (h : BEnv n) : BNm (getN n) := fun x i e => by
  unfold getN at e
  cases q : n.find? (fun p => decide (p.1 = x)) with
  | none => rw [q] at e; cases e
  | some p =>
    rw [q] at e
    cases e
    exact h p (List.mem_of_find?_eq_some q)
theorem BEnv.put {n : Env} {x : Str} {i : Int} (h : BEnv n) (b : Bv i) : BEnv (putN n x i) := fun p m => by
  unfold putN at m
  split at m
  · obtain ⟨q, hq, e⟩ := List.mem_map.mp m
    split at e
    · rw [← e]; exact b
    · rw [← e]; exact h q hq
  · rcases List.mem_append.mp m with m | m
    · exact h p m
    · simp only [List.mem_singleton] at m
      rw [m]; exact b
theorem BEnv.nil : BEnv [] := fun _ m => nomatch m
def parE (n : Env) (z : List (Str × Int)) : Env := z.foldl (fun n p => putN n p.1 p.2) n
theorem parE_drop {n : Env} {z : List (Str × Int)} {i : Nat} {p : Str × Int} (h : z[i]? = some p) : parE n (z.drop i) = parE (putN n p.1 p.2) (z.drop (i + 1)) := by
  obtain ⟨lt, e⟩ := List.getElem?_eq_some_iff.mp h
  rw [List.drop_eq_getElem_cons lt, e]
  rfl
theorem mem_parE : ∀ {z : List (Str × Int)} {n : Env} {y : Str}, y ∈ (parE n z).map (·.1) ↔ y ∈ z.map (·.1) ∨ y ∈ n.map (·.1)
  | [], n, y => by simp [parE]
  | p :: z, n, y => by
    show y ∈ (parE (putN n p.1 p.2) z).map (·.1) ↔ _
    rw [mem_parE, mem_putN, List.map_cons, List.mem_cons]
    constructor
    · rintro (a | a | a)
      · exact .inl (.inr a)
      · exact .inl (.inl a)
      · exact .inr a
    · rintro ((a | a) | a)
      · exact .inr (.inl a)
      · exact .inl a
      · exact .inr (.inr a)
theorem len_parE : ∀ (z : List (Str × Int)) (n : Env), (parE n z).length ≤ n.length + z.length
  | [], n => Nat.le_refl _
  | p :: z, n => by
    have a := len_parE z (putN n p.1 p.2)
    have b := len_putN n p.1 p.2
    show (parE (putN n p.1 p.2) z).length ≤ _
    rw [List.length_cons]
    omega
theorem BEnv.par : ∀ {z : List (Str × Int)} {n : Env}, BEnv n → (∀ p ∈ z, Bv p.2) → BEnv (parE n z)
  | [], n, h, _ => h
  | p :: z, n, h, q => BEnv.par (z := z) (h.put (q p List.mem_cons_self)) fun r m => q r (List.mem_cons_of_mem _ m)
theorem getN_some {n : Env} {x : Str} (h : x ∈ n.map (·.1)) : (getN n x).isSome = true := (getN_isSome n x).mpr h
/-- the states with which an actor is born: first expressions in a row; s the states so far, n the names -/
def begS : List (Str × Ex) → Env → Env → Option Env
  | [], s, _ => some s
  | (x, e) :: r, s, n => match ev (getN n) e with
    | .ok v => begS r (putN s x v) (putN n x v)
    | .bad _ => none
theorem begS_drop {b : List (Str × Ex)} {i : Nat} {x : Str} {e : Ex} {s n : Env} (h : b[i]? = some (x, e)) : begS (b.drop i) s n = match ev (getN n) e with
    | .ok v => begS (b.drop (i + 1)) (putN s x v) (putN n x v)
    | .bad _ => none := by
  obtain ⟨lt, q⟩ := List.getElem?_eq_some_iff.mp h
  rw [List.drop_eq_getElem_cons lt, q]
  rfl
structure Hd where
  msg : Str
  pars : List Str
  body : List St
structure Act where
  nam : Str
  pars : List Str
  sts : List (Str × Ex)
  hds : List Hd
def sxD (p : Str × Ex) : PyData := .tuple [.str p.1, exD p.2]
def hdD (h : Hd) : PyData := .tuple [.str h.msg, .list (h.pars.map .str), .list (bdD h.body)]
def begA (a : Act) (as : List Int) : Option Env := begS a.sts [] (parE [] (a.pars.zip as))
/-- each first expression reads what stands before it -/
structure ActOk (a : Act) : Prop where
  exs : ∀ i x e, a.sts[i]? = some (x, e) → eOk (fun y => y ∈ a.pars ∨ y ∈ (a.sts.take i).map (·.1)) e
  few1 : a.pars.length ≤ 10
  few2 : a.sts.length ≤ 20
  ndp : a.pars.Nodup
theorem begS_keys : ∀ {b : List (Str × Ex)} {s n env : Env}, begS b s n = some env → ∀ y, y ∈ env.map (·.1) ↔ y ∈ b.map (·.1) ∨ y ∈ s.map (·.1)
  | [], s, n, env, h, y => by cases h; simp
  | (x, e) :: r, s, n, env, h, y => by
    unfold begS at h
    cases q : ev (getN n) e with
    | bad w => rw [q] at h; cases h
    | ok v =>
      rw [q] at h
      rw [begS_keys (b := r) h y, mem_putN, List.map_cons, List.mem_cons]
      constructor
      · rintro (a | a | a)
        · exact .inl (.inr a)
        · exact .inl (.inl a)
        · exact .inr a
      · rintro ((a | a) | a)
        · exact .inr (.inl a)
        · exact .inl a
        · exact .inr (.inr a)
theorem begS_nd : ∀ {b : List (Str × Ex)} {s n env : Env}, begS b s n = some env → (s.map (·.1)).Nodup → (env.map (·.1)).Nodup
  | [], s, n, env, h, q => by cases h; exact q
  | (x, e) :: r, s, n, env, h, q => by
    unfold begS at h
    cases z : ev (getN n) e with
    | bad w => rw [z] at h; cases h
    | ok v => rw [z] at h; exact begS_nd (b := r) h (nd_putN _ _ q)
theorem begS_B : ∀ {b : List (Str × Ex)} {s n env : Env}, begS b s n = some env → BEnv s → BEnv n → BEnv env
  | [], s, n, env, h, q, _ => by cases h; exact q
  | (x, e) :: r, s, n, env, h, q, qn => by
    unfold begS at h
    cases z : ev (getN n) e with
    | bad w => rw [z] at h; cases h
    | ok v =>
      rw [z] at h
      have bv := ev_Bv qn.nm z
      exact begS_B (b := r) h (q.put bv) (qn.put bv)
theorem begS_len : ∀ {b : List (Str × Ex)} {s n env : Env}, begS b s n = some env → env.length ≤ s.length + b.length
  | [], s, n, env, h => by cases h; exact Nat.le_refl _
  | (x, e) :: r, s, n, env, h => by
    unfold begS at h
    cases z : ev (getN n) e with
    | bad w => rw [z] at h; cases h
    | ok v =>
      rw [z] at h
      have a := begS_len (b := r) h
      have b := len_putN s x v
      rw [List.length_cons]
      omega
section
variable {K : PySem.W.Frag}
/-- an actor in the heap, locked -/
def ActAt (K : PySem.W.Frag) (H : Hp) (v : V) (a : Act) : Prop := ∃ p o dx vp vs vh, v = .ref p ∧ H p = some (.frz o (.ins (He.ga K "Actor") dx [("name", .str a.nam), ("parameters", vp), ("states", vs), ("handlers", vh)])) ∧
  Di H vp (.list (a.pars.map .str)) ∧ Di H vs (.list (a.sts.map sxD)) ∧ Di H vh (.list (a.hds.map hdD))
theorem ActAt.mono {L : List Addr} {H Ha : Hp} {v : V} {a : Act} (h : ActAt K H v a) (k : Kp L H Ha) : ActAt K Ha v a := by
  obtain ⟨p, o, dx, vp, vs, vh, rfl, e, d1, d2, d3⟩ := h
  exact ⟨p, o, dx, vp, vs, vh, rfl, k.frz _ _ _ e, d1.mono k, d2.mono k, d3.mono k⟩
end
end Rk
/-! retroact.handlers: begin_with. -/
namespace Rk
open PySem PySem.Spec PyProof.Rows L2
theorem at0 {α : Type} {xs : List α} {i : Nat} {v : α} (h : xs[i]? = some v) : atI xs (0 + (i : Int)) = some v := by rw [Int.zero_add]; exact atI_nat h
theorem pss_as {X : Cx} {b : List Stmt} {t t2 : TS} (h : PSs X b t) (e : t2 = t) : PSs X b t2 := e ▸ h
section
variable {K : PySem.W.Frag} {mg : Str → Option Value} {P : Program} {w : World} {base : Heap}
def spBeg (K : PySem.W.Frag) : Sp := fun vs H Q E => ∃ v a t as r, vs = [v, .ref t, r] ∧ ActAt K H v a ∧ ActOk a ∧ H t = some (.tup (as.map V.int)) ∧ as.length = a.pars.length ∧ (∀ i ∈ as, Bv i) ∧ (∃ k o dk, r = .ref k ∧ H k = some (.frz o (.ins (He.ga K "Reckoner") dk []))) ∧
  (∀ env Ha D, begA a as = some env → Kp [] H Ha → H D = none → Ha D = some (.dK (dN env)) → Q (.ref D) Ha) ∧ (begA a as = none → ∀ Ha, Kp [] H Ha → Q .non Ha)
theorem ok_begin_with (T : Tx K mg) : FnOk P w K mg base (L2N.CX P w) 8 (He.ga K "begin_with") T.fd_begin_with P_begin_with (spBeg K) := by
  refine T.D_begin_with.ok sc_begin_with (fun vs H Q E h => by obtain ⟨v, a, t, as, r, rfl, _⟩ := h; rfl) fun cdv A outer s H vs Q E hr h => ⟨_, (pss_cons (ps_set (i := 3) sc_begin_with.nd rfl (.inl rfl) pe_dnewK)
    (pss_cons (ps_for PassesOwn.leaving rfl (pi_range1 rfl T.f_range (pa_cons (pe_callB call_len_seq (by rfl) T.f_len (by decide +kernel) (pa_cons (pe_att T.c_Actor T.n_Actor_parameters (pv 0)) pa_nil)) pa_nil)) (pg_name (i := 4) sc_begin_with.nd rfl (.inl rfl))
    (pss_one (ps_dput (hu_of hr) (pv 3) (pe_ix ix_list (pe_att T.c_Actor T.n_Actor_parameters (pv 0)) (pv 4) (fun _ _ => rfl)) (pe_ix ix_tup (pv 1) (pv 4) (fun _ _ => rfl)) rfl)))
    (pss_cons (ps_set (i := 5) sc_begin_with.nd rfl (.inl rfl) pe_dnewK)
    (pss_cons (L2N.ps_try_many rfl rfl (L2N.takes_of rfl rfl rfl rfl) (fun W pn xe tk po => (pss_as (pss_one (ps_for (wi := iList K _) (g := gTup K 2 _) po rfl (pi_list (pe_att T.c_Actor T.n_Actor_states (pv 0))) (pg_tup rfl (pgs_cons (pg_name (i := 6) sc_begin_with.nd rfl (.inl rfl)) (pgs_cons (pg_name (i := 7) sc_begin_with.nd rfl (.inl rfl)) pgs_nil)))
    (pss_cons (ps_dput (hu_of hr) (pv 5) (pv 6) (pe_meR (pv 2) T.c_Reckoner T.m_Reckoner_reckon (ok_Reckoner_reckon T) hr T.b_Reckoner_reckon (fun σ => L2N.passAt tk σ) (pa_cons (pv 7) (pa_cons (pv 3) pa_nil))) rfl)
    (pss_one (ps_dput (hu_of hr) (pv 3) (pv 6) (pe_dget (hu_of hr) (pv 5) (pv 6) (fun _ _ => rfl)) rfl))))) rfl)) (.cons ⟨rfl, by decide, .inl T.g_Fault⟩ (fun a oe cls d pn hz hf => (pss_as (pss_one (ps_ret pe_non)) rfl)) .nil))
    (pss_one (ps_ret (pv 5))))))), ?_⟩
  obtain ⟨v, a, t, as, r, rfl, aa, ok, et, len, bas, ⟨k, ok_, dk, rfl, ek⟩, q1, q2⟩ := h
  obtain ⟨p, o, dx, vp, vs, vh, rfl, ep, dp, ds, dh⟩ := aa
  obtain ⟨lp, op, xp, rfl, elp, dlp⟩ := dp.inv_lst
  obtain ⟨ls, os, xs, rfl, els, dls⟩ := ds.inv_lst
  have lxp : xp = a.pars.map V.str := dlp.inv_strs
  subst lxp
  have lxs : xs.length = a.sts.length := by rw [dls.length, List.length_map]
  intro n0 nn0
  have k0 : Kp [] H (upd H n0 (.dK [])) := Kp.refl.new nn0
  refine ⟨_, rfl, p, o, dx, _, _, rfl, k0.frz _ _ _ ep, rfl, lp, _, rfl, .inl (.inl (.inr ⟨op, k0.frz _ _ _ elp⟩)), ?_⟩
  rw [List.length_map]
  have zl : (a.pars.zip as).length = a.pars.length := by rw [List.length_zip]; omega
  refine ⟨_, rfl, Int.natCast_nonneg _, ?_⟩
  refine ⟨by have := ok.few1; omega, for_range (lo := 0) (n := a.pars.length) (fun i σ Ha => ∃ tv n, σ = [some (.ref p), some (.ref t), some (.ref k), some (.ref n0), tv, none, none, none] ∧ Kp [] H Ha ∧ Ha n0 = some (.dK (dN n)) ∧ parE [] (a.pars.zip as) = parE n ((a.pars.zip as).drop i) ∧ n.length ≤ i ∧ BEnv n) ⟨none, [], rfl, k0, upd_same, rfl, Nat.zero_le _, BEnv.nil⟩ (fun i σ Ha il ⟨tv, n, eσ, ka, en, hp, nl, be⟩ => ?_) fun σ Ha ⟨tv, n, eσ, ka, en, hp, nl, be⟩ => ?_⟩
  · subst eσ
    have il2 : i < as.length := by omega
    obtain ⟨x, hx⟩ : ∃ x, a.pars[i]? = some x := ⟨a.pars[i], List.getElem?_eq_getElem il⟩
    obtain ⟨j, hj⟩ : ∃ j, as[i]? = some j := ⟨as[i], List.getElem?_eq_getElem il2⟩
    have hz : (a.pars.zip as)[i]? = some (x, j) := by rw [List.getElem?_zip_eq_some]; exact ⟨hx, hj⟩
    rw [parE_drop hz] at hp
    have bj := bas j (List.mem_of_getElem? hj)
    refine ⟨_, rfl, _, rfl, t, _, _, _, rfl, rfl, SqT.of (ka.tup _ _ et), at0 (v := .int j) (by rw [List.getElem?_map, hj]; rfl), ?_⟩
    refine ⟨_, rfl, _, rfl, p, o, dx, _, _, rfl, ka.frz _ _ _ ep, rfl, _, rfl, lp, _, _, _, rfl, rfl, .inl (.inr ⟨op, ka.frz _ _ _ elp⟩), at0 (v := .str x) (by rw [List.getElem?_map, hx]; rfl), ?_⟩
    have lt2 : (dN n).length < sizeLine := by unfold dN; rw [List.length_map]; have := ok.few1; exact small' (by omega)
    refine ⟨n0, _, rfl, DPut.k (k := .inr x) en lt2, ?_⟩
    have := len_putN n x j
    exact ⟨_, putN n x j, rfl, ka.own nn0, by rw [upd_same, putK_dN], hp, by omega, be.put bj⟩
  · subst eσ
    rw [← zl, List.drop_length] at hp
    have hp : parE [] (a.pars.zip as) = n := hp
    have keys : ∀ y, y ∈ a.pars → y ∈ n.map (·.1) := fun y m => by
      rw [← hp]
      refine mem_parE.mpr (.inl ?_)
      rw [List.map_fst_zip (by omega)]
      exact m
    intro s0 ns0
    have ns0H : H s0 = none := ka.dom _ ns0
    have h0s : n0 ≠ s0 := ne_of_none en ns0
    have ks : Kp [] H (upd Ha s0 (.dK [])) := ka.new ns0
    have hb : begA a as = begS (a.sts.drop 0) [] n := by unfold begA; rw [hp]; rfl
    refine ⟨_, rfl, p, o, dx, _, _, rfl, ks.frz _ _ _ ep, rfl, ls, rfl, ⟨xs, .inl (.inr ⟨os, ks.frz _ _ _ els⟩)⟩, for_list (xs := xs) (fun i σ Hb => ∃ t1 t2 sN nN, σ = [some (.ref p), some (.ref t), some (.ref k), some (.ref n0), tv, some (.ref s0), t1, t2] ∧ Kp [] H Hb ∧ Hb n0 = some (.dK (dN nN)) ∧ Hb s0 = some (.dK (dN sN)) ∧ begA a as = begS (a.sts.drop i) sN nN ∧ sN.length ≤ i ∧ nN.length ≤ n.length + i ∧ BEnv nN ∧ (∀ y, (y ∈ a.pars ∨ y ∈ (a.sts.take i).map (·.1)) → y ∈ nN.map (·.1))) ⟨none, none, [], n, rfl, ks, (upd_ne h0s).trans en, upd_same, hb, Nat.le_refl _, Nat.le_refl _, be, fun y m => m.elim (keys y) fun z => by simp at z⟩ (fun i σ Hb _ ⟨_, _, _, _, _, kb, _⟩ => .inl (.inr ⟨os, kb.frz _ _ _ els⟩)) (fun i xv σ Hb hx ⟨t1, t2, sN, nN, eσ, kb, en, es, hb, sl, nl2, be, dom⟩ => ?_) fun σ Hb ⟨t1, t2, sN, nN, eσ, kb, en, es, hb, sl, nl2, be, dom⟩ => ?_⟩
    · subst eσ
      have il : i < a.sts.length := by rw [← lxs]; exact (List.getElem?_eq_some_iff.mp hx).1
      obtain ⟨de, hde, dxv⟩ := dls.at' hx
      rw [List.getElem?_map] at hde
      obtain ⟨⟨x, e⟩, hxe, rfl⟩ : ∃ q, a.sts[i]? = some q ∧ sxD q = de := by
        cases q : a.sts[i]? with
        | none => rw [q] at hde; cases hde
        | some e => rw [q] at hde; exact ⟨e, rfl, Option.some.inj hde⟩
      rw [begS_drop hxe] at hb
      obtain ⟨pt, v0, v1, rfl, ept, d0, d1⟩ := (dxv.mono kb).inv2
      cases d0.inv_str
      have eo := ok.exs i x e hxe
      have f1 := ok.few1
      have f2 := ok.few2
      refine ⟨pt, _, rfl, SqT.of ept, rfl, _, _, rfl, _, _, rfl, rfl, ?_⟩
      refine ⟨_, rfl, k, dk, [], rfl, .inr ⟨ok_, kb.frz _ _ _ ek⟩, rfl, _, rfl, _, rfl, .ref k, _, e, n0, getN nN, rfl, d1, eo.2, ⟨_, .inl en, valV_dN nN⟩, Ex.all_mono (fun y m => getN_some (dom y m)) eo.1, be.nm, ans.of (fun j ej Hc kc => ?_) fun why ew Hc dx' kc ex => ?_⟩
      · rw [ej] at hb
        have bj := ev_Bv be.nm ej
        have lt2 : (dN sN).length < sizeLine := by unfold dN; rw [List.length_map]; exact small' (by omega)
        have es2 := kc.same _ _ es
        refine ⟨_, rfl, _, rfl, s0, _, rfl, DPut.k (k := .inr x) es2 lt2, ?_⟩
        have es3 : (upd Hc s0 (.dK (putK (dN sN) (.inr x) (.int j)))) s0 = some (.dK (dN (putN sN x j))) := by rw [upd_same, putK_dN]
        have en3 : (upd Hc s0 (.dK (putK (dN sN) (.inr x) (.int j)))) n0 = some (.dK (dN nN)) := (upd_ne h0s).trans (kc.same _ _ en)
        refine ⟨_, rfl, _, rfl, s0, .int j, rfl, ?_, _, rfl, _, rfl, n0, _, rfl, DPut.k (k := .inr x) en3 ?_, ?_⟩
        · have q := DGet.k (k := .inr x) es3
          rw [valV_dN, getN_putN] at q
          have z : upN (getN sN) x j x = some j := if_pos rfl
          rw [z] at q
          exact q
        · unfold dN; rw [List.length_map]; exact small' (by omega)
        · have l1 := len_putN sN x j
          have l2 := len_putN nN x j
          refine ⟨_, _, putN sN x j, putN nN x j, rfl, ((kb.trans kc).own ns0H).own nn0, by rw [upd_same, putK_dN], (upd_ne (Ne.symm h0s)).trans es3, hb, by omega, by omega, be.put bj, fun y m => mem_putN.mpr ?_⟩
          rcases m with m | m
          · exact .inr (dom y (.inl m))
          · rw [List.take_add_one, hxe, List.map_append, List.mem_append] at m
            rcases m with m | m
            · exact .inr (dom y (.inr m))
            · simp only [Option.toList, List.map_cons, List.map_nil, List.mem_singleton] at m
              exact .inl m
      · rw [ew] at hb
        exact ⟨true, T.x_Fault_Fault, fun _ _ _ => q2 hb _ (kb.trans kc), fun z => nomatch z⟩
    · subst eσ
      rw [lxs, List.drop_length] at hb
      exact ⟨_, rfl, q1 sN Hb s0 hb kb ns0H es⟩
end
end Rk
/-! retroact.handlers: run_with, run_handler. -/
namespace Rk
open PySem PySem.Spec PyProof.Rows L2
theorem for_pairs {d : Addr} {f : HO} {n : Nat} {pr : Nat → Hp → V → V → Prop} {g : TG} {tb : TS} {D : Ends} {σ : L2.St} {H : Hp} (Pv : Nat → L2.St → Hp → Prop) (h0 : Pv 0 σ H) (hd : ∀ i σ Hb, Pv i σ Hb → Hb d = some f)
    (hs : ∀ i T kx vx σ Hb, i < n → Pv i σ Hb → pr i Hb kx vx → Hb T = none → g (.ref T) σ (upd Hb T (.tup [kx, vx])) fun σ2 H2 => tb { D with nx := Pv (i + 1), ct := Pv (i + 1), bk := D.nx } σ2 H2) (he : ∀ σ Hb, Pv n σ Hb → D.nx σ Hb) :
    ∃ W : Nat → Nat → L2.St → Hp → Prop, (∃ m, W 0 m σ H) ∧ ∀ i m σ H, W i m σ H → ((ItP d f n pr).stop i H ∧ D.nx σ H) ∨ ((ItP d f n pr).go i H ∧ ∃ N : L2.St → Hp → Prop, (∀ σ' H', N σ' H' → ∃ m', m' < m ∧ W (i + 1) m' σ' H') ∧
      ∀ x H', (ItP d f n pr).yld i H x H' → g x σ H' fun σ2 H2 => tb { D with nx := N, ct := N, bk := D.nx } σ2 H2) := by
  refine ⟨fun i m σ H => m = n - i ∧ i ≤ n ∧ Pv i σ H, ⟨n, by simp, Nat.zero_le _, h0⟩, ?_⟩
  rintro i m σ H ⟨rfl, le, p⟩
  by_cases lt : i < n
  · exact .inr ⟨⟨hd i σ H p, lt⟩, Pv (i + 1), fun σ' H' p' => ⟨n - (i + 1), by omega, rfl, lt, p'⟩, fun x H' ⟨T, kx, vx, hpr, ex, nT, eH⟩ => by subst ex eH; exact hs i T kx vx σ H lt p hpr nT⟩
  · have e : i = n := by omega
    subst e
    exact .inl ⟨⟨hd _ σ H p, Nat.le_refl _⟩, he σ H p⟩
theorem hotS {X : Cx} {a : Addr} {oe : Obj} {cls : Value} {d : Option Addr} {pn : List (Addr × Obj)} (hz : L2N.Zn cls d oe) (hf : ∃ vs, oe.data = .fields vs) : L2H.HotC (X.suite a ((a, oe) :: pn)) := by
  obtain ⟨vs, e⟩ := hf
  exact ⟨(a, oe), ⟨rfl, vs, e, hz.2.2 vs e⟩, List.mem_cons_self⟩
theorem putN_putN (n : Env) (x : Str) (v u : Int) : putN (putN n x v) x u = putN n x u := by
  by_cases m : x ∈ n.map (·.1)
  · have m2 : x ∈ (putN n x v).map (·.1) := by rw [keys_putN_old v m]; exact m
    unfold putN at m2 ⊢
    rw [if_pos ((any_keys n x).mpr m)] at m2 ⊢
    rw [if_pos ((any_keys _ x).mpr m2), if_pos ((any_keys n x).mpr m), List.map_map]
    refine List.map_congr_left fun p _ => ?_
    show (if (if p.1 = x then (p.1, v) else p).1 = x then ((if p.1 = x then (p.1, v) else p).1, u) else (if p.1 = x then (p.1, v) else p)) = if p.1 = x then (p.1, u) else p
    by_cases e : p.1 = x
    · simp [e]
    · simp [e]
  · have h : ∀ p ∈ n, p.1 ≠ x := fun p hp e => m (List.mem_map.mpr ⟨p, hp, e⟩)
    rw [putN_new v m, putN_new u m]
    unfold putN
    rw [if_pos (by simp), List.map_append]
    congr 1
    · conv => rhs; rw [← List.map_id n]
      refine List.map_congr_left fun p hp => ?_
      rw [if_neg (h p hp)]; rfl
    · simp
/-! ### what a run leads to -/
structure Out where
  kind : Str
  sts : Env
  dds : List Dd
  why : Option Str
def nv0 (h : Hd) (sts : Env) (as : List Int) : Nm := fun x => if x ∈ nsL h.body ∧ x ∉ h.pars ++ sts.map (·.1) then some 0 else getN (parE sts (h.pars.zip as)) x
def aft (h : Hd) (f : Nm) (sts : Env) : Env := sts.map fun p => if p.1 ∈ h.pars then p else (p.1, (f p.1).getD 0)
def outR (h : Hd) (sts : Env) : Rr → Out
  | .go t => ⟨"done", aft h t.nv sts, t.dd, none⟩
  | .stop t => ⟨"stopped", aft h t.nv sts, t.dd, none⟩
  | .bad _ why => ⟨"failed", sts, [], some why⟩
def runW (h : Hd) (sts : Env) (sp : Int) (as : List Int) : Out := outR h sts (runL h.body ⟨nv0 h sts as, sp, []⟩)
def hdom (h : Hd) (ks : List Str) : Str → Prop := fun x => x ∈ h.pars ∨ x ∈ ks ∨ x ∈ nsL h.body
structure HdOk (h : Hd) (ks : List Str) : Prop where
  body : bOk (hdom h ks) h.body
  dep : bDep h.body < 3
  few : (nsL h.body).length < 64
  few1 : h.pars.length ≤ 10
theorem aft_keys (h : Hd) (f : Nm) (sts : Env) : (aft h f sts).map (·.1) = sts.map (·.1) := by
  unfold aft
  rw [List.map_map]
  refine List.map_congr_left fun p _ => ?_
  show (if p.1 ∈ h.pars then p else (p.1, (f p.1).getD 0)).1 = p.1
  split <;> rfl
theorem aft_at {h : Hd} {f : Nm} {sts : Env} {i : Nat} {x : Str} {v : Int} (e : sts[i]? = some (x, v)) : (aft h f sts)[i]? = some (if x ∈ h.pars then (x, v) else (x, (f x).getD 0)) := by
  unfold aft
  rw [List.getElem?_map, e]
  rfl
theorem put_at {n : Env} {i : Nat} {x : Str} {v : Int} (nd : (n.map (·.1)).Nodup) (h : n[i]? = some (x, v)) (u : Int) : putN (putN (n.take i) x u) x v = n.take (i + 1) := by rw [putN_putN, take_putN nd h]
section
variable {K : PySem.W.Frag} {mg : Str → Option Value} {P : Program} {w : World} {base : Heap}
def oV : Option Str → V
  | none => .non
  | some s => .str s
/-- an outcome in the heap, locked -/
def OutAt (K : PySem.W.Frag) (H : Hp) (v : V) (o : Out) : Prop := ∃ p oo dx D od vl, v = .ref p ∧ H p = some (.frz oo (.ins (He.ga K "Outcome") dx [("kind", .str o.kind), ("states", .ref D), ("deeds", vl), ("reason", oV o.why)])) ∧
  H D = some (.frz od (.dK (dN o.sts))) ∧ Di H vl (.list (o.dds.map ddD))
theorem OutAt.mono {L : List Addr} {H Ha : Hp} {v : V} {o : Out} (h : OutAt K H v o) (k : Kp L H Ha) : OutAt K Ha v o := by
  obtain ⟨p, oo, dx, D, od, vl, rfl, e, e2, d⟩ := h
  exact ⟨p, oo, dx, D, od, vl, rfl, k.frz _ _ _ e, k.frz _ _ _ e2, d.mono k⟩
structure StsOk (sts : Env) : Prop where
  nd : (sts.map (·.1)).Nodup
  be : BEnv sts
  few : sts.length ≤ 100
def spRw (K : PySem.W.Frag) : Sp := fun vs H Q E => ∃ hv sd od t k ok dk h sts sp as, vs = [hv, .ref sd, .int sp, .ref t, .ref k] ∧ Di H hv (hdD h) ∧ H sd = some (.frz od (.dK (dN sts))) ∧ H t = some (.tup (as.map V.int)) ∧ H k = some (.frz ok (.ins (He.ga K "Reckoner") dk [])) ∧
  HdOk h (sts.map (·.1)) ∧ StsOk sts ∧ as.length = h.pars.length ∧ (∀ i ∈ as, Bv i) ∧ 0 ≤ sp ∧ sp ≤ 100000000 ∧ ∀ Ha v, Kp [] H Ha → OutAt K Ha v (runW h sts sp as) → Q v Ha
theorem ok_run_with (T : Tx K mg) : FnOk P w K mg base (L2N.CX P w) 21 (He.ga K "run_with") T.fd_run_with P_run_with (spRw K) := by
  obtain ⟨ds4, vd, b4⟩ := T.b4_Outcome_init
  refine T.D_run_with.ok sc_run_with (fun vs H Q E h => by obtain ⟨hv, sd, od, t, k, ok, dk, h, sts, sp, as, rfl, _⟩ := h; rfl) fun cdv A outer s H vs Q E hr h => ⟨_, (pss_cons (ps_asg (pv 0) (pg_tup rfl (pgs_cons (pg_name (i := 5) sc_run_with.nd rfl (.inl rfl)) (pgs_cons (pg_name (i := 6) sc_run_with.nd rfl (.inl rfl)) (pgs_cons (pg_name (i := 7) sc_run_with.nd rfl (.inl rfl)) pgs_nil)))))
    (pss_cons (ps_setDcB (i := 10) (g := gTup K 2 (gCons (gName 8) (gCons (gName 9) gNil))) (tk := tVar 8) (tv := tVar 9) (own := [("name", 8), ("value", 9)]) (.inl rfl) (hu_of hr) sc_run_with.nd rfl rfl (sw_trueD rfl rfl rfl (by decide +kernel)) (pi_pairs (pv 1)) (blkOk_by (own := [("name", 8), ("value", 9)]) (N := N_run_with) (sc := defScope s_run_with) (by decide +kernel)) (fun _ _ _ _ _ => (pg_tupB (n := 2) (.inl rfl) (pgs_cons (pg_name (i := 8) sc_run_with.nd rfl (.inl rfl) (hf := .inr rfl)) (pgs_cons (pg_name (i := 9) sc_run_with.nd rfl (.inl rfl) (hf := .inr rfl)) pgs_nil)))) (fun _ _ _ _ _ => (pv 8)) (fun _ _ _ _ _ => (pv 9)))
    (pss_cons (ps_for PassesOwn.leaving rfl (pi_range1 rfl T.f_range (pa_cons (pe_callB call_len_seq (by rfl) T.f_len (by decide +kernel) (pa_cons (pv 6) pa_nil)) pa_nil)) (pg_name (i := 11) sc_run_with.nd rfl (.inl rfl))
    (pss_one (ps_dput (hu_of hr) (pv 10) (pe_ix ix_list (pv 6) (pv 11) (fun _ _ => rfl)) (pe_ix ix_tup (pv 3) (pv 11) (fun _ _ => rfl)) rfl)))
    (pss_cons (ps_set (i := 12) sc_run_with.nd rfl (.inl rfl) (pe_make T.k_Run (ok_Run_init T) (hr.mono (by decide)) rfl T.g_Run T.b_Run_init .nil pass0 (pa_cons (pv 10) (pa_cons (pv 2) (pa_cons (pv 4) pa_nil)))))
    (Evl.pss_cut (L2N.ps_try_as (i := 14) rfl rfl sc_run_with.nd rfl rfl ⟨rfl, by decide, .inl T.g_Fault⟩ (L2N.takes_of rfl rfl rfl rfl) (fun W pn xe tk po => (pss_as (pss_cons (ps_for (wi := iList K _) po rfl (pi_list (pe_callS (ok_locals_of T 3) (hr.mono (by decide)) rfl T.g_locals_of T.p_locals_of T.b_locals_of (fun σ => L2N.passAt tk σ) (pa_cons (pv 7) (pa_cons (pe_op op_catL (pv 6) (pe_callTy (call_keysL (by rfl)) (by rfl) T.f_list (by decide +kernel) (pa_cons (pv 1) pa_nil))) pa_nil)))) (pg_name (i := 8) sc_run_with.nd rfl (.inl rfl))
    (pss_one (ps_dput (hu_of hr) (pv 10) (pv 8) (pe_meR (pv 4) T.c_Reckoner T.m_Reckoner_told (ok_Reckoner_told T) (hr.mono (by decide)) T.b_Reckoner_told (fun σ => L2N.passAt tk σ) (pa_cons pe_int pa_nil)) rfl)))
    (pss_one (ps_set (i := 13) sc_run_with.nd rfl (.inl rfl) (pe_meR (pv 12) T.c_Run T.m_Run_go_through (ok_go T 3) hr T.b_Run_go_through (fun σ => L2N.passAt tk σ) (pa_cons (pv 7) pa_nil))))) rfl)) (fun a oe cls d pn hz hf => (pss_as (pss_one (ps_ret (pe_fz (pe_makeH T.k_Outcome (okH_Outcome_init T) ((L2H.roomH_mark hr _).mono (by decide)) (hotS hz hf) T.b5_Outcome_init rfl T.g_Outcome pass0 (pa_cons pe_str (pa_cons (pv 1) (pa_cons (pe_lst pa_nil) (pa_cons (pe_xf T.e_Fault.xf T.n_Fault_reason hz.zc hf (pv 14)) pa_nil)))))))) rfl)))
    (pss_cons (ps_set (i := 15) sc_run_with.nd rfl (.inl rfl) pe_dnewK)
    (pss_cons (ps_for PassesOwn.leaving rfl (pi_pairs (pv 1)).calm (pg_tup rfl (pgs_cons (pg_name (i := 8) sc_run_with.nd rfl (.inl rfl)) (pgs_cons (pg_name (i := 9) sc_run_with.nd rfl (.inl rfl)) pgs_nil)))
    (pss_cons (ps_dput (hu_of hr) (pv 15) (pv 8) (pv 9) rfl)
    (pss_one (ps_if (pt_cmpR op_notIn_seq (pv 8) (pv 6) (by rfl))
    (pss_one (ps_dput (hu_of hr) (pv 15) (pv 8) (pe_dget (hu_of hr) (pe_fe T.c_Run T.n_Run_names (pv 12)) (pv 8) (fun _ _ => rfl)) rfl))
    pss_nil))))
    (pss_cons (ps_set (i := 16) sc_run_with.nd rfl (.inl rfl) pe_str)
    (pss_cons (ps_if (pt_val (pv 13))
    (pss_one (ps_set (i := 16) sc_run_with.nd rfl (.inl rfl) pe_str))
    pss_nil)
    (pss_one (ps_ret (pe_fz (pe_make T.k_Outcome (ok_Outcome_init T) (hr.mono (by decide)) rfl T.g_Outcome b4 vd pass0 (pa_cons (pv 16) (pa_cons (pe_fz (pv 15)) (pa_cons (pe_fe T.c_Run T.n_Run_deeds (pv 12)) pa_nil)))))))))))))))), ?_⟩
  obtain ⟨hv, sd, od, t, k, ok, dk, h, sts, sp, as, rfl, dh, es, et, ek, ho, so, len, bas, sp0, sp1, q⟩ := h
  obtain ⟨pt, v0, v1, v2, rfl, ept, d0, d1, d2⟩ := dh.inv3
  obtain ⟨lp, op, xp, rfl, elp, dlp⟩ := d1.inv_lst
  have lxp : xp = h.pars.map V.str := dlp.inv_strs
  subst lxp
  obtain ⟨bl, ob, xb, eqv2, ebl, dlb⟩ := d2.inv_lst
  subst eqv2
  -- the handler is taken apart
  refine ⟨_, rfl, pt, _, rfl, SqT.of ept, rfl, _, _, rfl, _, _, rfl, _, _, rfl, rfl, ?_⟩
  -- the names: first the states
  refine ⟨_, rfl, sd, od, rfl, .inl ⟨_, es, fun n0 nn0 => dcB_copy so.nd (by have := so.few; omega) rfl nn0 es (fun i T kx vx Hb => ⟨rfl, rfl, rfl⟩) fun Hb kb en => ?_⟩⟩
  -- then the parameters
  refine ⟨_, rfl, lp, _, rfl, .inl (.inl (.inr ⟨op, kb.frz _ _ _ elp⟩)), ?_⟩
  rw [List.length_map]
  have zl : (h.pars.zip as).length = h.pars.length := by rw [List.length_zip]; omega
  refine ⟨_, rfl, Int.natCast_nonneg _, ?_⟩
  refine ⟨by have := ho.few1; omega, for_range (lo := 0) (n := h.pars.length) (fun i σ Ha => ∃ tv n, σ = [some (.ref pt), some (.ref sd), some (.int sp), some (.ref t), some (.ref k), some v0, some (.ref lp), some (.ref bl), none, none, some (.ref n0), tv, none, none, none, none, none] ∧ Kp [] H Ha ∧ Ha n0 = some (.dK (dN n)) ∧ parE sts (h.pars.zip as) = parE n ((h.pars.zip as).drop i) ∧ n.length ≤ sts.length + i ∧ BEnv n) ⟨none, sts, rfl, kb, en, rfl, Nat.le_refl _, so.be⟩ (fun i σ Ha il ⟨tv, n, eσ, ka, en, hp, nl, be⟩ => ?_) fun σ Ha ⟨tv, n, eσ, ka, en, hp, nl, be⟩ => ?_⟩
  · subst eσ
    have il2 : i < as.length := by omega
    obtain ⟨x, hx⟩ : ∃ x, h.pars[i]? = some x := ⟨h.pars[i], List.getElem?_eq_getElem il⟩
    obtain ⟨j, hj⟩ : ∃ j, as[i]? = some j := ⟨as[i], List.getElem?_eq_getElem il2⟩
    have hz : (h.pars.zip as)[i]? = some (x, j) := by rw [List.getElem?_zip_eq_some]; exact ⟨hx, hj⟩
    rw [parE_drop hz] at hp
    have bj := bas j (List.mem_of_getElem? hj)
    refine ⟨_, rfl, _, rfl, t, _, _, _, rfl, rfl, SqT.of (ka.tup _ _ et), at0 (v := .int j) (by rw [List.getElem?_map, hj]; rfl), ?_⟩
    refine ⟨_, rfl, _, rfl, _, rfl, lp, _, _, _, rfl, rfl, .inl (.inr ⟨op, ka.frz _ _ _ elp⟩), at0 (v := .str x) (by rw [List.getElem?_map, hx]; rfl), ?_⟩
    have lt2 : (dN n).length < sizeLine := by unfold dN; rw [List.length_map]; have := ho.few1; have := so.few; exact small' (by omega)
    refine ⟨n0, _, rfl, DPut.k (k := .inr x) en lt2, ?_⟩
    have := len_putN n x j
    exact ⟨_, putN n x j, rfl, ka.own nn0, by rw [upd_same, putK_dN], hp, by omega, be.put bj⟩
  · subst eσ
    rw [← zl, List.drop_length] at hp
    have hp : parE sts (h.pars.zip as) = n := hp
    have keys : ∀ y, y ∈ n.map (·.1) ↔ y ∈ h.pars ∨ y ∈ sts.map (·.1) := fun y => by
      rw [← hp, mem_parE, List.map_fst_zip (by omega)]
    have nsz : n.length ≤ 200 := by have := ho.few1; have := so.few; omega
    -- the run
    refine ⟨_, rfl, _, rfl, _, rfl, fun r dxr nr ndx ne => ⟨r, dxr, n0, sp, k, ok, dk, rfl, upd_same, ?_, fun Hb l kr er el nl => ⟨rfl, ?_⟩⟩⟩
    · rw [upd_ne (ne_of_none (ka.frz _ _ _ ek) nr), upd_ne (ne_of_none (ka.frz _ _ _ ek) ndx)]
      exact ka.frz _ _ _ ek
    have nrH : H r = none := ka.dom _ nr
    have k1 : Kp [] H (upd (upd Ha dxr (.own r)) r (.ins (He.ga K "Run") dxr [])) := (ka.new ndx).own nrH
    have k2 : Kp [] H Hb := k1.sub kr fun a m => .inr (by rw [List.mem_singleton.mp m]; exact nrH)
    have en2 : Hb n0 = some (.dK (dN n)) := kr.kp _ _ (fun m => by rw [List.mem_singleton.mp m, nr] at en; cases en) (by rw [upd_ne (ne_of_none en nr), upd_ne (ne_of_none en ndx)]; exact en)
    have ek2 : Hb k = some (.frz ok (.ins (He.ga K "Reckoner") dk [])) := k2.frz _ _ _ ek
    have nlH : H l = none := k1.dom _ nl
    have hn0l : n0 ≠ l := fun z => by rw [← z, en2] at el; cases el
    have hn0r : n0 ≠ r := fun z => by rw [← z, en2] at er; cases er
    have ks : ∀ y, y ∈ h.pars ++ sts.map (·.1) ↔ y ∈ n.map (·.1) := fun y => by rw [List.mem_append, keys y]
    have ea : (dN sts).map (fun kv => kV kv.1) = (sts.map (·.1)).map V.str := by
      unfold dN
      rw [List.map_map, List.map_map]
      rfl
    refine ⟨fun σ Hc => ∃ tv8 b rs, σ = [some (.ref pt), some (.ref sd), some (.int sp), some (.ref t), some (.ref k), some v0, some (.ref lp), some (.ref bl), tv8, none, some (.ref n0), tv, some (.ref r), some (.bl b), none, none, none] ∧ Kp [] H Hc ∧ RunAt K Hc r n0 l rs ∧ RsOk (hdom h (sts.map (·.1))) rs ∧
      runW h sts sp as = ⟨if b then "stopped" else "done", aft h rs.nv sts, rs.dd, none⟩, ?_, ?_⟩
    · -- the other names
      refine ⟨_, rfl, _, rfl, _, rfl, sd, dN sts, rfl, .inr ⟨od, k2.frz _ _ _ es⟩, fun p np => ⟨lp, p, _, _, rfl, rfl, .inr ⟨op, (k2.new np).frz _ _ _ elp⟩, .inl upd_same, ?_, fun p2 np2 => ?_⟩⟩
      · rw [ea, List.length_map, List.length_map, List.length_map]
        have := ho.few1; have := so.few; exact small (by omega)
      have k3 : Kp [] H (upd (upd Hb p (.lst ((dN sts).map fun kv => kV kv.1))) p2 (.lst (h.pars.map V.str ++ (dN sts).map fun kv => kV kv.1))) := (k2.new np).new np2
      have kk : (h.pars.map V.str ++ (dN sts).map fun kv => kV kv.1) = (h.pars ++ sts.map (·.1)).map V.str := by rw [ea, List.map_append]
      rw [kk] at k3 ⊢
      refine ⟨_, h.body, p2, h.pars ++ sts.map (·.1), rfl, d2.mono k3, ho.dep, ho.few, SqL.of upd_same, fun Hc kc => SqL.of (kc.same _ _ upd_same), fun Hc f ys kc nf ef yl hys => ?_⟩
      have k4 : Kp [] Hb Hc := ((Kp.refl.new np).new np2).trans kc
      have hfr : ∀ {q : Addr} {o : HO}, Hb q = some o → q ≠ f := fun {q o} e z => by
        have := (Kp.refl (L := []).new np |>.new np2).dom q (by rw [z]; exact nf)
        rw [this] at e; cases e
      refine ⟨f, rfl, ⟨_, SqL.of ef⟩, for_list (xs := ys.map V.str) (fun i σ Hd => ∃ tv8 nE, σ = [some (.ref pt), some (.ref sd), some (.int sp), some (.ref t), some (.ref k), some v0, some (.ref lp), some (.ref bl), tv8, none, some (.ref n0), tv, some (.ref r), none, none, none, none] ∧ Kp [] H Hd ∧ Hd n0 = some (.dK (dN nE)) ∧ Hd r = some (.ins (He.ga K "Run") dxr (runF n0 sp k l)) ∧ Hd l = some (.lst []) ∧ Hd f = some (.lst (ys.map V.str)) ∧ nE.length ≤ 200 + i ∧ BEnv nE ∧ ∀ x, getN nE x = if x ∈ ys.take i then some 0 else getN n x) ⟨none, n, rfl, k2.trans k4, k4.same _ _ en2, k4.same _ _ er, k4.same _ _ el, ef, by omega, be, fun x => by simp⟩ (fun i σ Hd _ ⟨_, _, _, _, _, _, _, e, _⟩ => SqL.of e) (fun i x σ Hd hx ⟨tv8, nE, eσ, kd, en3, er3, el3, ef3, nl3, be3, hE⟩ => ?_) fun σ Hd ⟨tv8, nE, eσ, kd, en3, er3, el3, ef3, nl3, be3, hE⟩ => ?_⟩
      · subst eσ
        rw [List.getElem?_map] at hx
        obtain ⟨y, hy, rfl⟩ : ∃ y, ys[i]? = some y ∧ V.str y = x := by
          cases q : ys[i]? with
          | none => rw [q] at hx; cases hx
          | some e => rw [q] at hx; exact ⟨e, rfl, Option.some.inj hx⟩
        have il : i < ys.length := (List.getElem?_eq_some_iff.mp hy).1
        have lt2 : (dN nE).length < sizeLine := by unfold dN; rw [List.length_map]; exact small' (by omega)
        refine ⟨_, rfl, k, dk, [], rfl, .inr ⟨ok, kd.frz _ _ _ ek⟩, rfl, .ref k, 0, rfl, _, rfl, _, rfl, n0, _, rfl, DPut.k (k := .inr y) en3 lt2, ?_⟩
        have l1 := len_putN nE y 0
        refine ⟨_, putN nE y 0, rfl, kd.own nn0, by rw [upd_same, putK_dN], (upd_ne (Ne.symm hn0r)).trans er3, (upd_ne (Ne.symm hn0l)).trans el3, (upd_ne (Ne.symm (hfr en2))).trans ef3, by omega, be3.put ⟨by decide, by decide⟩, fun x => ?_⟩
        rw [getN_putN, List.take_add_one, hy]
        unfold upN
        show (if x = y then some 0 else getN nE x) = if x ∈ ys.take i ++ [y] then some 0 else getN n x
        rw [hE x]
        by_cases e : x = y
        · rw [if_pos e, if_pos (by simp [e])]
        · rw [if_neg e]
          by_cases m : x ∈ ys.take i
          · rw [if_pos m, if_pos (by simp [m])]
          · rw [if_neg m, if_neg (by simp [m, e])]
      · subst eσ
        rw [List.length_map, List.take_length] at hE
        have hnv : getN nE = nv0 h sts as := by
          funext x
          rw [hE x]
          unfold nv0
          rw [hp]
          by_cases m : x ∈ ys
          · rw [if_pos m, if_pos ((hys x).mp m)]
          · rw [if_neg m, if_neg fun z => m ((hys x).mpr z)]
        have ra : RunAt K Hd r n0 l ⟨nv0 h sts as, sp, []⟩ := ⟨⟨dxr, k, ok, dk, er3, kd.frz _ _ _ ek⟩, ⟨_, en3, fun x => by rw [valV_dN, hnv], by unfold dN; rw [List.length_map]; rw [List.length_map] at nl3; omega⟩, ⟨[], el3, .nil⟩⟩
        have rk : RsOk (hdom h (sts.map (·.1))) ⟨nv0 h sts as, sp, []⟩ := by
          refine ⟨hnv ▸ be3.nm, fun x m => ?_, sp0, by show sp ≤ 100000000 + (([] : List Dd).length : Int); simp; exact sp1, by simp⟩
          show (nv0 h sts as x).isSome = true
          unfold nv0
          split
          · rfl
          · rename_i z
            rw [hp]
            refine getN_some ((ks x).mp ?_)
            rcases m with m | m | m
            · exact List.mem_append_left _ m
            · exact List.mem_append_right _ m
            · exact Classical.byContradiction fun q => z ⟨m, q⟩
        have rok := runL_ok h.body _ ho.body rk
        refine ⟨_, rfl, r, dxr, _, rfl, .inl er3, rfl, _, rfl, r, n0, l, ⟨nv0 h sts as, sp, []⟩, hdom h (sts.map (·.1)), .ref bl, h.body, rfl, d2.mono kd, ho.dep, ra, rk, ho.body, ?_⟩
        have own3 : ∀ {He : Hp}, Kp [r, n0, l] Hd He → Kp [] H He := fun {He} ke => kd.sub ke fun a m => by
          simp only [List.mem_cons, List.not_mem_nil, or_false] at m
          rcases m with rfl | rfl | rfl
          · exact .inr nrH
          · exact .inr nn0
          · exact .inr nlH
        refine rans.of (fun rs ers Hg ke re => ⟨_, false, rs, rfl, own3 ke, re, ?_, ?_⟩) (fun rs ers Hg ke re => ⟨_, true, rs, rfl, own3 ke, re, ?_, ?_⟩) fun rs why ers Hg dxe ke ee => ⟨true, T.x_Fault_Fault, fun _ xa nxa => ?_, fun z => nomatch z⟩
        · rw [ers] at rok; exact rok
        · unfold runW; rw [ers]; rfl
        · rw [ers] at rok; exact rok
        · unfold runW; rw [ers]; rfl
        · have ke2 := own3 ke
          refine ⟨_, rfl, Nat.zero_le _, fun l2 nl2 => ?_⟩
          have k5 := ke2.new (o := .lst []) nl2
          refine ⟨_, rfl, rfl, rfl, dxe, _, _, rfl, (upd_ne (ne_of_none ee nl2)).trans ee, rfl, fun o dxo no ndxo neo => ?_⟩
          have noH : H o = none := k5.dom _ no
          have k6 : Kp [] H (upd (upd (upd Hg l2 (.lst [])) dxo (.own o)) o (.ins (He.ga K "Outcome") dxo [])) := (k5.new ndxo).own noH
          have e2 : l2 ≠ o := ne_of_none upd_same no
          have e3 : l2 ≠ dxo := ne_of_none upd_same ndxo
          refine ⟨o, dxo, .str "failed", sd, od, sts, l2, [], .str why, rfl, upd_same, k6.frz _ _ _ es, so.nd, by have := so.few; omega, fun Hf kf => SqL.of (kf.kp _ _ (fun m => e2 (List.mem_singleton.mp m)) (by rw [upd_ne e2, upd_ne e3, upd_same])), fun Hf D oz l3 ol kf eo eD el4 => ⟨rfl, o, _, eo, True.intro, fun oo => ?_⟩⟩
          have k7 : Kp [] H Hf := k6.sub kf fun a m => .inr (by rw [List.mem_singleton.mp m]; exact noH)
          have eW : runW h sts sp as = ⟨"failed", sts, [], some why⟩ := by unfold runW; rw [ers]; rfl
          refine q _ _ (k7.own noH) ?_
          rw [eW]
          exact ⟨o, oo, dxo, D, oz, .ref l3, rfl, upd_same, (upd_ne (ne_of eD eo fun z => nomatch z)).trans eD, .lst ((upd_ne (ne_of el4 eo fun z => nomatch z)).trans el4) .nil⟩
    · rintro σ Hc ⟨tv8, b, rs, rfl, kc, ra, rk, eW⟩
      intro a0 na0
      have na0H : H a0 = none := kc.dom _ na0
      have k0 : Kp [] Hc (upd Hc a0 (.dK [])) := Kp.refl.new na0
      have nda : ((aft h rs.nv sts).map (·.1)).Nodup := by rw [aft_keys]; exact so.nd
      have laft : (aft h rs.nv sts).length = sts.length := by unfold aft; rw [List.length_map]
      have ldn : (dN sts).length = sts.length := by unfold dN; rw [List.length_map]
      refine ⟨_, rfl, sd, od, rfl, .inl ⟨dN sts, (kc.trans k0).frz _ _ _ es, for_pairs (fun i σ Hd => ∃ t8 t9, σ = [some (.ref pt), some (.ref sd), some (.int sp), some (.ref t), some (.ref k), some v0, some (.ref lp), some (.ref bl), t8, t9, some (.ref n0), tv, some (.ref r), some (.bl b), none, some (.ref a0), none] ∧ Kp [] Hc Hd ∧ Hd a0 = some (.dK (dN ((aft h rs.nv sts).take i)))) ⟨_, _, rfl, k0, upd_same⟩ (fun i σ Hd ⟨_, _, _, kd, _⟩ => (kc.trans kd).frz _ _ _ es) (fun i T kx vx σ Hd lt ⟨t8, t9, eσ, kd, e0⟩ ⟨key, hk, ekx⟩ nT => ?_) fun σ Hd ⟨t8, t9, eσ, kd, e0⟩ => ?_⟩⟩
      · subst eσ
        obtain ⟨⟨x, v⟩, hx, exv⟩ : ∃ p, sts[i]? = some p ∧ (Sum.inr p.1, V.int p.2) = ((key, vx) : Key × V) := by
          unfold dN at hk
          rw [List.getElem?_map] at hk
          cases q : sts[i]? with
          | none => rw [q] at hk; cases hk
          | some p => rw [q] at hk; exact ⟨p, rfl, Option.some.inj hk⟩
        cases exv
        subst ekx
        have il : i < sts.length := (List.getElem?_eq_some_iff.mp hx).1
        have haT : a0 ≠ T := ne_of_none e0 nT
        have kT : Kp [] Hc (upd Hd T (.tup [kV (.inr x), .int v])) := kd.new nT
        have e1 : (upd Hd T (.tup [kV (.inr x), .int v])) a0 = some (.dK (dN ((aft h rs.nv sts).take i))) := (upd_ne haT).trans e0
        have lt2 : (dN ((aft h rs.nv sts).take i)).length < sizeLine := by unfold dN; rw [List.length_map, List.length_take]; have := so.few; exact small' (by omega)
        refine ⟨T, _, rfl, SqT.of upd_same, rfl, _, _, rfl, _, _, rfl, rfl, ?_⟩
        refine ⟨_, rfl, _, rfl, _, rfl, a0, _, rfl, DPut.k (k := .inr x) e1 lt2, ?_⟩
        have k2a : Kp [] Hc (upd (upd Hd T (.tup [kV (.inr x), .int v])) a0 (.dK (putK (dN ((aft h rs.nv sts).take i)) (.inr x) (.int v)))) := kT.own na0
        have e2 : (upd (upd Hd T (.tup [kV (.inr x), .int v])) a0 (.dK (putK (dN ((aft h rs.nv sts).take i)) (.inr x) (.int v)))) a0 = some (.dK (dN (putN ((aft h rs.nv sts).take i) x v))) := by rw [upd_same, putK_dN]
        refine ⟨_, rfl, _, rfl, lp, _, rfl, .inl (.inl (.inr ⟨op, (kc.trans k2a).frz _ _ _ elp⟩)), rfl, flat_strs h.pars, _, rfl, ?_⟩
        rw [show inV (kV (Sum.inr (x, v).1)) (h.pars.map V.str) = decide (x ∈ h.pars) from inV_strs x h.pars]
        by_cases m : x ∈ h.pars
        · refine iF (by show (!decide (x ∈ h.pars)) = false; simp [m]) ?_
          refine ⟨_, _, rfl, k2a, ?_⟩
          have hat := aft_at (h := h) (f := rs.nv) hx
          rw [if_pos m] at hat
          rw [e2, take_putN nda hat]
        · refine iT (by show (!decide (x ∈ h.pars)) = true; simp [m]) ?_
          have ra2 := ra.mono k2a
          obtain ⟨dx2, q2, oq, dq, er2, ek3⟩ := ra2.run
          obtain ⟨j, hj⟩ := Option.isSome_iff_exists.mp (rk.dom x (.inr (.inl (List.mem_map.mpr ⟨(x, v), List.mem_of_getElem? hx, rfl⟩))))
          obtain ⟨kvs, en4, en5, _⟩ := ra2.nam
          have lt3 : (dN (putN ((aft h rs.nv sts).take i) x v)).length < sizeLine := by
            have := len_putN ((aft h rs.nv sts).take i) x v
            rw [List.length_take] at this
            unfold dN; rw [List.length_map]; have := so.few; exact small' (by omega)
          refine ⟨_, rfl, r, dx2, _, _, rfl, er2, rfl, _, rfl, n0, .int j, rfl, ?_, _, rfl, _, rfl, a0, _, rfl, DPut.k (k := .inr x) e2 lt3, _, _, rfl, k2a.own na0, ?_⟩
          · have q3 := DGet.k (k := .inr x) en4
            rw [en5, hj] at q3
            exact q3
          · have hat := aft_at (h := h) (f := rs.nv) hx
            rw [if_neg m, hj] at hat
            rw [upd_same, putK_dN]
            exact congrArg (fun z => some (HO.dK (dN z))) (put_at nda hat v)
      · subst eσ
        rw [ldn, ← laft, List.take_length] at e0
        have kd2 := kc.trans kd
        have ra2 := ra.mono kd
        obtain ⟨dx2, q2, oq, dq, er2, ek3⟩ := ra2.run
        obtain ⟨xs, el2, dl2⟩ := ra2.dds
        have hla : l ≠ a0 := fun z => by rw [z, e0] at el2; cases el2
        have hra : r ≠ a0 := fun z => by rw [z, e0] at er2; cases er2
        have last : ∀ kd : Str, runW h sts sp as = ⟨kd, aft h rs.nv sts, rs.dd, none⟩ → ∀ oz (o dxo : Addr), (upd Hd a0 (.frz oz (.dK (dN (aft h rs.nv sts))))) o = none → (upd Hd a0 (.frz oz (.dK (dN (aft h rs.nv sts))))) dxo = none → dxo ≠ o →
            spOut K [.ref o, .str kd, .ref a0, .ref l, .non] (upd (upd (upd Hd a0 (.frz oz (.dK (dN (aft h rs.nv sts))))) dxo (.own o)) o (.ins (He.ga K "Outcome") dxo [])) (fun v H2 => v = .non ∧ ∃ d u, H2 d = some u ∧ Mut (some u) ∧ ∀ od, Q (.ref o) (upd H2 d (.frz od u))) E0 := by
          intro kd eW oz o dxo no ndxo neo
          have k5 : Kp [] H (upd Hd a0 (.frz oz (.dK (dN (aft h rs.nv sts))))) := kd2.own na0H
          have noH : H o = none := k5.dom _ no
          have k6 : Kp [] H (upd (upd (upd Hd a0 (.frz oz (.dK (dN (aft h rs.nv sts))))) dxo (.own o)) o (.ins (He.ga K "Outcome") dxo [])) := (k5.new ndxo).own noH
          have el5 : (upd Hd a0 (.frz oz (.dK (dN (aft h rs.nv sts))))) l = some (.lst xs) := (upd_ne hla).trans el2
          have e2 : l ≠ o := ne_of_none el5 no
          have e3 : l ≠ dxo := ne_of_none el5 ndxo
          have e4 : a0 ≠ o := ne_of_none (H := upd Hd a0 (.frz oz (.dK (dN (aft h rs.nv sts))))) upd_same no
          have e5 : a0 ≠ dxo := ne_of_none (H := upd Hd a0 (.frz oz (.dK (dN (aft h rs.nv sts))))) upd_same ndxo
          have kx : Kp [a0] Hd (upd Hd a0 (.frz oz (.dK (dN (aft h rs.nv sts))))) := Kp.refl.wr (by simp) e0
          refine ⟨o, dxo, .str kd, a0, oz, aft h rs.nv sts, l, xs, .non, rfl, upd_same, by rw [upd_ne e4, upd_ne e5, upd_same], nda, by rw [laft]; have := so.few; omega, fun Hf kf => SqL.of (kf.kp _ _ (fun m => e2 (List.mem_singleton.mp m)) (by rw [upd_ne e2, upd_ne e3]; exact el5)), fun Hf D oz2 l3 ol kf eo eD el4 => ⟨rfl, o, _, eo, True.intro, fun oo => ?_⟩⟩
          have k8 : Kp [] H Hf := k6.sub kf fun a m => .inr (by rw [List.mem_singleton.mp m]; exact noH)
          refine q _ _ (k8.own noH) ?_
          rw [eW]
          refine ⟨o, oo, dxo, D, oz2, .ref l3, rfl, upd_same, (upd_ne (ne_of eD eo fun z => nomatch z)).trans eD, .lst ((upd_ne (ne_of el4 eo fun z => nomatch z)).trans el4) ?_⟩
          exact dl2.mono ((((kx.new ndxo).own (kx.dom _ no)).sub kf fun a m => .inr (by rw [List.mem_singleton.mp m]; exact kx.dom _ no)).own (kx.dom _ no))
        cases b with
        | true => exact ⟨_, rfl, _, rfl, iT rfl ⟨_, rfl, _, rfl, a0, _, e0, True.intro, fun oz => ⟨_, rfl, r, dx2, _, _, rfl, (upd_ne hra).trans er2, rfl, last "stopped" eW oz⟩⟩⟩
        | false => exact ⟨_, rfl, _, rfl, iF rfl ⟨_, rfl, _, rfl, a0, _, e0, True.intro, fun oz => ⟨_, rfl, r, dx2, _, _, rfl, (upd_ne hra).trans er2, rfl, last "done" eW oz⟩⟩⟩
end
end Rk
/-! How Being and History bind their keywords. -/
namespace Rk
open PySem PySem.Spec PyProof.Rows L2
section
variable {K : PySem.W.Frag} {mg : Str → Option Value}
theorem Tx.b3_Being_init (T : Tx K mg) : ∃ ds, Vals [.int 0, .int 0, .int 0, .str "on"] ds ∧ Binds K T.fd_Being_init P_Being_init ds :=
  T.D_Being_init.binds0 (ps := P_Being_init) 3 (by simp) rfl fun D doc pm an cdv ct us ks h1 h2 => match us, h1, ks, h2 with
    | [_, _, _], _, [_, _, _, _], _ => ⟨_, _, _, _, _, _, rfl, rfl, _, _, _, _, _, _, rfl, rfl, _, _, _, _, _, _, rfl, rfl, _, _, _, _, _, _, rfl, rfl, rfl⟩
theorem Tx.bm_Being_init (T : Tx K mg) : ∃ mv : List Value, KBn K T.fd_Being_init P_Being_init 3 ["mode"] (fun us ws => us ++ (mv ++ ws)) (fun vs zs => vs ++ ([.int 0, .int 0, .int 0] ++ zs)) :=
  T.D_Being_init.kbinds0 (ps := P_Being_init) 3 ["mode"] [("spawned", .int 0), ("sent", .int 0), ("called", .int 0)] (fun us mv ws => us ++ (mv ++ ws)) (by simp) (by simp) (fun a b c => a.append (b.append c)) fun D doc pm an cdv ct us mv ws h1 h2 h3 => match us, h1, mv, h2, ws, h3 with
    | [_, _, _], _, [_, _, _], _, [_], _ => ⟨_, _, _, _, _, _, rfl, rfl, _, _, _, _, _, _, rfl, rfl, _, _, _, _, _, _, rfl, rfl, rfl⟩
theorem Tx.ba_Being_init (T : Tx K mg) : ∃ mv : List Value, KBn K T.fd_Being_init P_Being_init 3 ["spawned", "sent", "called", "mode"] (fun us ws => us ++ (mv ++ ws)) (fun vs zs => vs ++ ([] ++ zs)) :=
  T.D_Being_init.kbinds0 (ps := P_Being_init) 3 ["spawned", "sent", "called", "mode"] [] (fun us mv ws => us ++ (mv ++ ws)) (by simp) (by simp) (fun a b c => a.append (b.append c)) fun D doc pm an cdv ct us mv ws h1 h2 h3 => match us, h1, mv, h2, ws, h3 with
    | [_, _, _], _, [], _, [_, _, _, _], _ => rfl
theorem Tx.be_History_init (T : Tx K mg) : ∃ mv : List Value, KBn K T.fd_History_init P_History_init 2 ["every"] (fun us ws => us ++ (mv ++ ws)) (fun vs zs => vs ++ ([] ++ zs)) :=
  T.D_History_init.kbinds0 (ps := P_History_init) 2 ["every"] [] (fun us mv ws => us ++ (mv ++ ws)) (by simp) (by simp) (fun a b c => a.append (b.append c)) fun D doc pm an cdv ct us mv ws h1 h2 h3 => match us, h1, mv, h2, ws, h3 with
    | [_, _], _, [], _, [_], _ => rfl
end
end Rk
/-! retroact.handlers: run_handler; retroact.machine: the plain engine. -/
namespace Rk
open PySem PySem.Spec PyProof.Rows L2
section
variable {K : PySem.W.Frag} {mg : Str → Option Value} {P : Program} {w : World} {base : Heap}
structure RwPre (K : PySem.W.Frag) (H : Hp) (hv : V) (sd t : Addr) (h : Hd) (sts : Env) (sp : Int) (as : List Int) : Prop where
  dh : Di H hv (hdD h)
  es : ∃ od, H sd = some (.frz od (.dK (dN sts)))
  et : H t = some (.tup (as.map V.int))
  ho : HdOk h (sts.map (·.1))
  so : StsOk sts
  len : as.length = h.pars.length
  bas : ∀ i ∈ as, Bv i
  sp0 : 0 ≤ sp
  sp1 : sp ≤ 100000000
def spRh (K : PySem.W.Frag) : Sp := fun vs H Q E => ∃ hv sd t h sts sp as, vs = [hv, .ref sd, .int sp, .ref t] ∧ RwPre K H hv sd t h sts sp as ∧ ∀ Ha v, Kp [] H Ha → OutAt K Ha v (runW h sts sp as) → Q v Ha
def spPr (K : PySem.W.Frag) : Sp := fun vs H Q E => ∃ e hv sd t h sts sp as, vs = [e, hv, .ref sd, .int sp, .ref t] ∧ RwPre K H hv sd t h sts sp as ∧ ∀ Ha v, Kp [] H Ha → OutAt K Ha v (runW h sts sp as) → Q v Ha
theorem ok_run_handler (T : Tx K mg) : FnOk P w K mg base (L2N.CX P w) 22 (He.ga K "run_handler") T.fd_run_handler P_run_handler (spRh K) := by
  refine T.D_run_handler.ok sc_run_handler (fun vs H Q E h => by obtain ⟨hv, sd, t, h, sts, sp, as, rfl, _⟩ := h; rfl) fun cdv A outer s H vs Q E hr h => ⟨_, (pss_one (ps_ret (pe_callS (ok_run_with T) hr rfl T.g_run_with T.p_run_with T.b_run_with (fun σ => L2N.passAt (L2N.takes_of rfl rfl rfl rfl) σ) (pa_cons (pv 0) (pa_cons (pv 1) (pa_cons (pv 2) (pa_cons (pv 3) (pa_cons (pe_fz (pe_mk0 T.o_Reckoner rfl T.g_Reckoner)) pa_nil)))))))), ?_⟩
  obtain ⟨hv, sd, t, h, sts, sp, as, rfl, p, q⟩ := h
  obtain ⟨od, es⟩ := p.es
  refine ⟨_, rfl, _, rfl, _, rfl, _, rfl, fun x dx nx ndx ne => ⟨x, _, upd_same, True.intro, fun oz => ?_⟩⟩
  have k : Kp [] H (upd (upd (upd H dx (.own x)) x (.ins (He.ga K "Reckoner") dx [])) x (.frz oz (.ins (He.ga K "Reckoner") dx []))) := ((Kp.refl.new ndx).own nx).own nx
  exact ⟨hv, sd, od, t, x, oz, dx, h, sts, sp, as, rfl, p.dh.mono k, k.frz _ _ _ es, k.tup _ _ p.et, upd_same, p.ho, p.so, p.len, p.bas, p.sp0, p.sp1, fun Ha v ka o => q Ha v (k.trans ka) o⟩
theorem ok_Plain_run (T : Tx K mg) : FnOk P w K mg base (L2N.CX P w) 23 (He.ma K (He.ga K "Plain") "run") T.fd_Plain_run P_Plain_run (spPr K) := by
  refine T.D_Plain_run.ok sc_Plain_run (fun vs H Q E h => by obtain ⟨e, hv, sd, t, h, sts, sp, as, rfl, _⟩ := h; rfl) fun cdv A outer s H vs Q E hr h => ⟨_, (pss_one (ps_ret (pe_callS (ok_run_handler T) hr rfl T.g_run_handler T.p_run_handler T.b_run_handler (fun σ => L2N.passAt (L2N.takes_of rfl rfl rfl rfl) σ) (pa_cons (pv 1) (pa_cons (pv 2) (pa_cons (pv 3) (pa_cons (pv 4) pa_nil))))))), ?_⟩
  obtain ⟨e, hv, sd, t, h, sts, sp, as, rfl, p, q⟩ := h
  exact ⟨_, rfl, _, rfl, _, rfl, _, rfl, hv, sd, t, h, sts, sp, as, rfl, p, q⟩
structure BegPre (K : PySem.W.Frag) (H : Hp) (v : V) (t : Addr) (a : Act) (as : List Int) : Prop where
  act : ActAt K H v a
  ok : ActOk a
  et : H t = some (.tup (as.map V.int))
  len : as.length = a.pars.length
  bas : ∀ i ∈ as, Bv i
def spPb (K : PySem.W.Frag) : Sp := fun vs H Q E => ∃ e v a t as, vs = [e, v, .ref t] ∧ BegPre K H v t a as ∧
  (∀ env Ha D, begA a as = some env → Kp [] H Ha → H D = none → Ha D = some (.dK (dN env)) → Q (.ref D) Ha) ∧ (begA a as = none → ∀ Ha, Kp [] H Ha → Q .non Ha)
theorem ok_Plain_begin (T : Tx K mg) : FnOk P w K mg base (L2N.CX P w) 9 (He.ma K (He.ga K "Plain") "begin") T.fd_Plain_begin P_Plain_begin (spPb K) := by
  refine T.D_Plain_begin.ok sc_Plain_begin (fun vs H Q E h => by obtain ⟨e, v, a, t, as, rfl, _⟩ := h; rfl) fun cdv A outer s H vs Q E hr h => ⟨_, (pss_one (ps_ret (pe_callS (ok_begin_with T) hr rfl T.g_begin_with T.p_begin_with T.b_begin_with (fun σ => L2N.passAt (L2N.takes_of rfl rfl rfl rfl) σ) (pa_cons (pv 1) (pa_cons (pv 2) (pa_cons (pe_fz (pe_mk0 T.o_Reckoner rfl T.g_Reckoner)) pa_nil)))))), ?_⟩
  obtain ⟨e, v, a, t, as, rfl, p, q1, q2⟩ := h
  refine ⟨_, rfl, _, rfl, fun x dx nx ndx ne => ⟨x, _, upd_same, True.intro, fun oz => ?_⟩⟩
  have k : Kp [] H (upd (upd (upd H dx (.own x)) x (.ins (He.ga K "Reckoner") dx [])) x (.frz oz (.ins (He.ga K "Reckoner") dx []))) := ((Kp.refl.new ndx).own nx).own nx
  exact ⟨v, a, t, as, .ref x, rfl, p.act.mono k, p.ok, k.tup _ _ p.et, p.len, p.bas, ⟨x, oz, dx, rfl, upd_same⟩, fun env Ha D e ka nD eD => q1 env Ha D e (k.trans ka) (k.dom _ nD) eD, fun e Ha ka => q2 e Ha (k.trans ka)⟩
end
end Rk
/-! The machine in plain Lean, and how its things stand in the heap. -/
namespace Rk
open PySem PySem.Spec PyProof.Rows L2
abbrev Pth := List Int
structure Bg where
  kind : Str
  sts : Env
  spawned : Int
  sent : Int
  called : Int
  mode : Str
inductive Og | sent (p : Pth) (n : Int) | input (m : Int) | answer (p : Pth) (n : Int)
structure Wt where
  path : Pth
  msg : Str
  args : List Int
  org : Og
structure Pn where
  path : Pth
  num : Int
  eff : Str
  args : List Int
  back : Option Str
structure Gn where
  path : Pth
  num : Int
  eff : Str
  args : List Int
structure Sta where
  bgs : List (Pth × Bg)
  wt : List Wt
  pn : List Pn
  gn : List Gn
inductive Evt | input (p : Pth) (m : Str) (as : List Int) | deliver (i : Int) | answer (i v : Int)
inductive Td | input (p : Pth) (m : Str) | dropped (p : Pth) (m : Str) | handled (p : Pth) (m : Str) (kind : Str) (why : Option Str) | answered (p : Pth) (n : Int)
structure Prg where
  effs : List (Str × Int)
  acts : List Act
def keyD (p : Pth) (n : Int) : PyData := .tuple [inD p, .int n]
def ogD : Og → PyData
  | .sent p n => .tuple [.str "sent", inD p, .int n]
  | .input m => .tuple [.str "input", .int m]
  | .answer p n => .tuple [.str "answer", keyD p n]
def wtD (w : Wt) : PyData := .tuple [inD w.path, .str w.msg, inD w.args, ogD w.org]
def pnD (k : Pn) : PyData := .tuple [keyD k.path k.num, .str k.eff, inD k.args, oS k.back]
def gnD (k : Gn) : PyData := .tuple [keyD k.path k.num, .str k.eff, inD k.args]
def evD : Evt → PyData
  | .input p m as => .tuple [.str "input", inD p, .str m, inD as]
  | .deliver i => .tuple [.str "deliver", .int i]
  | .answer i v => .tuple [.str "answer", .int i, .int v]
def tdD : Td → PyData
  | .input p m => .tuple [.str "input", inD p, .str m]
  | .dropped p m => .tuple [.str "dropped", inD p, .str m]
  | .handled p m k w => .tuple [.str "handled", inD p, .str m, .str k, oS w]
  | .answered p n => .tuple [.str "answered", keyD p n]
def actOf (prg : Prg) (k : Str) : Option Act := prg.acts.find? fun a => decide (a.nam = k)
def hdOf (a : Act) (m : Str) (n : Nat) : Option Hd := a.hds.find? fun h => decide (h.msg = m ∧ h.pars.length = n)
def getB (l : List (Pth × Bg)) (p : Pth) : Option Bg := (l.find? fun q => decide (q.1 = p)).map (·.2)
def putB (l : List (Pth × Bg)) (p : Pth) (b : Bg) : List (Pth × Bg) := if (l.any fun q => decide (q.1 = p)) = true then l.map (fun q => if q.1 = p then (q.1, b) else q) else l ++ [(p, b)]
def zeros (a : Act) : Env := a.sts.map fun p => (p.1, 0)
def bornA (k : Str) (a : Act) (as : List Int) : Bg := match begA a as with
  | some env => ⟨k, env, 0, 0, 0, "on"⟩
  | none => ⟨k, zeros a, 0, 0, 0, "failed"⟩
def bornW (prg : Prg) (k : Str) (as : List Int) : Bg := match actOf prg k with
  | some a => bornA k a as
  | none => ⟨k, [], 0, 0, 0, "on"⟩
def recv (p : Pth) : Tv → Option Pth
  | .self => some p
  | .child i => some (p ++ [i])
  | .par => if p = [] then none else some p.dropLast
/-- one deed: b is the being at p, kept apart -/
def carry1 (prg : Prg) (p : Pth) (b : Bg) (s : Sta) : Dd → Bg × Sta
  | .send t m as => ({ b with sent := b.sent + 1 }, match recv p t with
    | some r => { s with wt := s.wt ++ [⟨r, m, as, .sent p b.sent⟩] }
    | none => s)
  | .spawn k as => ({ b with spawned := b.spawned + 1 }, { s with bgs := putB s.bgs (p ++ [b.spawned]) (bornW prg k as) })
  | .call f as m => ({ b with called := b.called + 1 }, { s with gn := s.gn ++ [⟨p, b.called, f, as⟩], pn := s.pn ++ [⟨p, b.called, f, as, m⟩] })
def carryL (prg : Prg) (p : Pth) : List Dd → Bg → Sta → Bg × Sta
  | [], b, s => (b, s)
  | d :: r, b, s => carryL prg p r (carry1 prg p b s d).1 (carry1 prg p b s d).2
/-- a message is handed to a handler -/
def handle (prg : Prg) (s : Sta) (p : Pth) (m : Str) (as : List Int) (b : Bg) (h : Hd) : Sta × Td :=
  let o := runW h b.sts b.spawned as
  let c := carryL prg p o.dds { b with sts := o.sts } s
  ({ c.2 with bgs := putB c.2.bgs p { c.1 with mode := if o.kind = "done" then c.1.mode else o.kind } }, .handled p m o.kind o.why)
def handler (prg : Prg) (b : Bg) (m : Str) (n : Nat) : Option Hd := (actOf prg b.kind).bind fun a => hdOf a m n
def deliver (prg : Prg) (s : Sta) (w : Wt) (i : Nat) : Sta × Td :=
  let s1 := { s with wt := s.wt.eraseIdx i }
  match getB s.bgs w.path with
  | none => (s1, .dropped w.path w.msg)
  | some b => if b.mode = "on" then match handler prg b w.msg w.args.length with
      | none => (s1, .dropped w.path w.msg)
      | some h => handle prg { s1 with bgs := putB s1.bgs w.path b } w.path w.msg w.args b h
    else (s1, .dropped w.path w.msg)
def isIn (prg : Prg) (s : Sta) (p : Pth) (m : Str) (as : List Int) : Bool := match getB s.bgs p with
  | none => false
  | some b => decide (b.mode = "on") && (handler prg b m as.length).isSome && as.all fun i => decide (Bv i)
def isPos (prg : Prg) (s : Sta) : Evt → Bool
  | .input p m as => isIn prg s p m as
  | .deliver i => decide (0 ≤ i) && decide (i < s.wt.length)
  | .answer i v => decide (0 ≤ i) && decide (i < s.pn.length) && decide (Bv v)
def applyW (prg : Prg) (s : Sta) (m : Int) : Evt → Option (Sta × Td)
  | .input p x as => some ({ s with wt := s.wt ++ [⟨p, x, as, .input m⟩] }, .input p x)
  | .deliver i => (s.wt[i.toNat]?).map fun w => deliver prg s w i.toNat
  | .answer i v => (s.pn[i.toNat]?).map fun k => ({ s with pn := s.pn.eraseIdx i.toNat, wt := match k.back with
      | some x => s.wt ++ [⟨k.path, x, [v], .answer k.path k.num⟩]
      | none => s.wt }, .answered k.path k.num)
def firstSta (prg : Prg) : Sta := ⟨[([], bornW prg ((prg.acts.head?.map (·.nam)).getD "") [])], [], [], []⟩
/-! ### in the heap -/
def pK (p : Pth) : List Key := p.map Sum.inl
theorem pK_inj : ∀ {p q : Pth}, pK p = pK q → p = q
  | [], [], _ => rfl
  | [], _ :: _, h => by cases h
  | _ :: _, [], h => by cases h
  | i :: p, j :: q, h => by
    unfold pK at h
    rw [List.map_cons, List.map_cons] at h
    injection h with h1 h2
    rw [Sum.inl.inj h1, pK_inj (p := p) (q := q) h2]
theorem pK_kV (p : Pth) : (pK p).map kV = p.map V.int := by
  unfold pK
  rw [List.map_map]
  rfl
/-- a dict by paths: R path value being -/
def Ks (R : Pth → V → Bg → Prop) : List (List Key × V) → List (Pth × Bg) → Prop
  | [], [] => True
  | kv :: r, b :: t => kv.1 = pK b.1 ∧ R b.1 kv.2 b.2 ∧ Ks R r t
  | _, _ => False
theorem Ks.mono {R R' : Pth → V → Bg → Prop} (h : ∀ p v b, R p v b → R' p v b) : ∀ {kvs : List (List Key × V)} {bgs : List (Pth × Bg)}, Ks R kvs bgs → Ks R' kvs bgs
  | [], [], _ => trivial
  | _ :: _, _ :: _, ⟨a, b, c⟩ => ⟨a, h _ _ _ b, Ks.mono h c⟩
  | [], _ :: _, q => q.elim
  | _ :: _, [], q => q.elim
theorem Ks.len {R : Pth → V → Bg → Prop} : ∀ {kvs : List (List Key × V)} {bgs : List (Pth × Bg)}, Ks R kvs bgs → kvs.length = bgs.length
  | [], [], _ => rfl
  | _ :: _, _ :: _, ⟨_, _, c⟩ => by simp [Ks.len c]
  | [], _ :: _, q => q.elim
  | _ :: _, [], q => q.elim
theorem Ks.keys {R : Pth → V → Bg → Prop} : ∀ {kvs : List (List Key × V)} {bgs : List (Pth × Bg)}, Ks R kvs bgs → kvs.map (·.1) = bgs.map (fun q => pK q.1)
  | [], [], _ => rfl
  | _ :: _, _ :: _, ⟨a, _, c⟩ => by simp [a, Ks.keys c]
  | [], _ :: _, q => q.elim
  | _ :: _, [], q => q.elim
theorem Ks.at {R : Pth → V → Bg → Prop} : ∀ {kvs : List (List Key × V)} {bgs : List (Pth × Bg)} {i : Nat} {kv : List Key × V}, Ks R kvs bgs → kvs[i]? = some kv → ∃ q, bgs[i]? = some q ∧ kv.1 = pK q.1 ∧ R q.1 kv.2 q.2
  | kv :: r, b :: t, 0, _, ⟨a, h, _⟩, e => by simp only [List.getElem?_cons_zero] at e; cases e; exact ⟨b, rfl, a, h⟩
  | _ :: r, _ :: t, i + 1, _, ⟨_, _, c⟩, e => by simp only [List.getElem?_cons_succ] at e ⊢; exact Ks.at c e
  | [], _, _, _, _, e => by simp at e
  | _ :: _, [], _, _, q, _ => q.elim
theorem Ks.none {R : Pth → V → Bg → Prop} : ∀ {kvs : List (List Key × V)} {bgs : List (Pth × Bg)} {p : Pth}, Ks R kvs bgs → getB bgs p = .none → valV kvs (pK p) = .none
  | [], [], _, _, _ => rfl
  | kv :: r, b :: t, p, ⟨a, _, c⟩, h => by
    unfold getB at h
    rw [List.find?_cons] at h
    by_cases e : b.1 = p
    · simp [e] at h
    · simp only [e, decide_false] at h
      rw [valV_neg (fun z => e (pK_inj (a.symm.trans z)))]
      exact Ks.none c h
  | [], _ :: _, _, q, _ => q.elim
  | _ :: _, [], _, q, _ => q.elim
theorem Ks.some {R : Pth → V → Bg → Prop} : ∀ {kvs : List (List Key × V)} {bgs : List (Pth × Bg)} {p : Pth} {b : Bg}, Ks R kvs bgs → getB bgs p = .some b → ∃ v, valV kvs (pK p) = .some v ∧ R p v b
  | [], [], _, _, _, h => by cases h
  | kv :: r, b :: t, p, _, ⟨a, h1, c⟩, h => by
    unfold getB at h
    rw [List.find?_cons] at h
    by_cases e : b.1 = p
    · simp only [e, decide_true] at h
      cases h
      subst e
      exact ⟨kv.2, valV_pos a, h1⟩
    · simp only [e, decide_false] at h
      rw [valV_neg (fun z => e (pK_inj (a.symm.trans z)))]
      exact Ks.some c h
  | [], _ :: _, _, _, q, _ => q.elim
  | _ :: _, [], _, _, q, _ => q.elim
theorem Ks.map {R : Pth → V → Bg → Prop} {p : Pth} {v : V} {b : Bg} (h : R p v b) : ∀ {kvs : List (List Key × V)} {bgs : List (Pth × Bg)}, Ks R kvs bgs →
    Ks R (kvs.map fun kv => if kv.1 = pK p then (kv.1, v) else kv) (bgs.map fun q => if q.1 = p then (q.1, b) else q)
  | [], [], _ => trivial
  | kv :: r, q :: t, ⟨a, h1, c⟩ => by
    rw [List.map_cons, List.map_cons]
    by_cases e : q.1 = p
    · rw [if_pos (by rw [a, e]), if_pos e]
      exact ⟨a, by show R q.1 v b; rw [e]; exact h, Ks.map h c⟩
    · rw [if_neg (fun z => e (pK_inj (a.symm.trans z))), if_neg e]
      exact ⟨a, h1, Ks.map h c⟩
  | [], _ :: _, q => q.elim
  | _ :: _, [], q => q.elim
theorem Ks.app {R : Pth → V → Bg → Prop} {p : Pth} {v : V} {b : Bg} (h : R p v b) : ∀ {kvs : List (List Key × V)} {bgs : List (Pth × Bg)}, Ks R kvs bgs → Ks R (kvs ++ [(pK p, v)]) (bgs ++ [(p, b)])
  | [], [], _ => ⟨rfl, h, trivial⟩
  | _ :: _, _ :: _, ⟨a, h1, c⟩ => ⟨a, h1, Ks.app h c⟩
  | [], _ :: _, q => q.elim
  | _ :: _, [], q => q.elim
theorem getB_any (l : List (Pth × Bg)) (p : Pth) : (l.any fun q => decide (q.1 = p)) = (getB l p).isSome := by
  unfold getB
  rw [Option.isSome_map]
  induction l with
  | nil => rfl
  | cons q t ih =>
    rw [List.any_cons, List.find?_cons]
    cases decide (q.1 = p) with
    | true => rfl
    | false => exact ih
theorem Ks.put {R : Pth → V → Bg → Prop} {p : Pth} {v : V} {b : Bg} {kvs : List (List Key × V)} {bgs : List (Pth × Bg)} (k : Ks R kvs bgs) (h : R p v b) : Ks R (putK kvs (pK p) v) (putB bgs p b) := by
  unfold putK putB
  rw [valV_any, getB_any]
  cases e : getB bgs p with
  | none =>
    rw [k.none e]
    exact k.app h
  | some c =>
    obtain ⟨u, e2, _⟩ := k.some e
    rw [e2]
    exact k.map h
theorem getB_put (l : List (Pth × Bg)) (p q : Pth) (b : Bg) : getB (putB l p b) q = if q = p then some b else getB l q := by
  have key : ∀ (l : List (Pth × Bg)), getB (l.map fun r => if r.1 = p then (r.1, b) else r) q = if q = p then (getB l q).map (fun _ => b) else getB l q := by
    intro l
    induction l with
    | nil => unfold getB; simp
    | cons r t ih =>
      unfold getB at ih ⊢
      rw [List.map_cons, List.find?_cons, List.find?_cons]
      by_cases e : r.1 = q
      · by_cases z : q = p
        · have e2 : r.1 = p := e.trans z
          simp [e, e2, z]
        · have e2 : ¬ r.1 = p := fun y => z (e.symm.trans y)
          simp [e, e2, z]
      · have e3 : ¬ (if r.1 = p then (r.1, b) else r).1 = q := by split <;> exact e
        simp only [e, e3, decide_false]
        exact ih
  unfold putB
  rw [getB_any]
  cases e : getB l p with
  | some c =>
    rw [if_pos (by rfl), key]
    by_cases z : q = p
    · rw [if_pos z, if_pos z, z, e]; rfl
    · rw [if_neg z, if_neg z]
  | none =>
    rw [if_neg (by simp)]
    by_cases z : q = p
    · rw [if_pos z]
      subst z
      unfold getB at e ⊢
      rw [List.find?_append]
      cases q2 : l.find? (fun r => decide (r.1 = q)) with
      | none => simp
      | some r => rw [q2] at e; cases e
    · rw [if_neg z]
      unfold getB
      rw [List.find?_append]
      have : ¬ p = q := fun y => z y.symm
      simp [this]
theorem len_putB (l : List (Pth × Bg)) (p : Pth) (b : Bg) : (putB l p b).length ≤ l.length + 1 := by
  unfold putB
  split
  · rw [List.length_map]; omega
  · rw [List.length_append]; simp
theorem mem_putB {l : List (Pth × Bg)} {p : Pth} {b : Bg} {q : Pth × Bg} (h : q ∈ putB l p b) : q = (p, b) ∨ (q ∈ l) := by
  unfold putB at h
  split at h
  · obtain ⟨r, hr, e⟩ := List.mem_map.mp h
    split at e
    · rename_i z
      exact .inl (by rw [← e, z])
    · exact .inr (e ▸ hr)
  · rcases List.mem_append.mp h with m | m
    · exact .inr m
    · exact .inl (List.mem_singleton.mp m)
theorem putB_keys {l : List (Pth × Bg)} {p : Pth} {b : Bg} (nd : (l.map (·.1)).Nodup) : ((putB l p b).map (·.1)).Nodup := by
  unfold putB
  split
  · rw [List.map_map]
    have : ((·.1) ∘ fun q : Pth × Bg => if q.1 = p then (q.1, b) else q) = (·.1) := by
      funext q
      show (if q.1 = p then (q.1, b) else q).1 = q.1
      split <;> rfl
    rw [this]
    exact nd
  · rename_i h
    rw [List.map_append]
    refine List.nodup_append.mpr ⟨nd, by simp, fun a ha c hc e => ?_⟩
    simp only [List.map_cons, List.map_nil, List.mem_singleton] at hc
    obtain ⟨q, hq, eq⟩ := List.mem_map.mp ha
    exact h (List.any_eq_true.mpr ⟨q, hq, decide_eq_true (by rw [eq, e, hc])⟩)
theorem getB_mem {l : List (Pth × Bg)} {p : Pth} {b : Bg} (h : getB l p = some b) : (p, b) ∈ l := by
  unfold getB at h
  cases q : l.find? (fun r => decide (r.1 = p)) with
  | none => rw [q] at h; cases h
  | some r =>
    rw [q] at h
    cases h
    have := List.mem_of_find?_eq_some q
    have e : r.1 = p := of_decide_eq_true (List.find?_some (p := fun r : Pth × Bg => decide (r.1 = p)) q)
    rw [← e]
    exact this
section
variable {K : PySem.W.Frag}
abbrev bgF (b : Bg) (D : Addr) : List (Str × V) := [("kind", .str b.kind), ("states", .ref D), ("spawned", .int b.spawned), ("sent", .int b.sent), ("called", .int b.called), ("mode", .str b.mode)]
def BgAt (K : PySem.W.Frag) (H : Hp) (v : V) (b : Bg) : Prop := ∃ p o dx D od, v = .ref p ∧ H p = some (.frz o (.ins (He.ga K "Being") dx (bgF b D))) ∧ H D = some (.frz od (.dK (dN b.sts)))
theorem BgAt.mono {L : List Addr} {H Ha : Hp} {v : V} {b : Bg} (h : BgAt K H v b) (k : Kp L H Ha) : BgAt K Ha v b := by
  obtain ⟨p, o, dx, D, od, rfl, e, e2⟩ := h
  exact ⟨p, o, dx, D, od, rfl, k.frz _ _ _ e, k.frz _ _ _ e2⟩
abbrev staF (B : Addr) (vw vp vg : V) : List (Str × V) := [("beings", .ref B), ("waiting", vw), ("pending", vp), ("gone", vg)]
def StaAt (K : PySem.W.Frag) (H : Hp) (v : V) (s : Sta) : Prop := ∃ p o dx B ob kvs vw vp vg, v = .ref p ∧ H p = some (.frz o (.ins (He.ga K "State") dx (staF B vw vp vg))) ∧ H B = some (.frz ob (.dT kvs)) ∧ Ks (fun _ => BgAt K H) kvs s.bgs ∧
  Di H vw (.list (s.wt.map wtD)) ∧ Di H vp (.list (s.pn.map pnD)) ∧ Di H vg (.list (s.gn.map gnD))
theorem StaAt.mono {L : List Addr} {H Ha : Hp} {v : V} {s : Sta} (h : StaAt K H v s) (k : Kp L H Ha) : StaAt K Ha v s := by
  obtain ⟨p, o, dx, B, ob, kvs, vw, vp, vg, rfl, e, e2, ks, d1, d2, d3⟩ := h
  exact ⟨p, o, dx, B, ob, kvs, vw, vp, vg, rfl, k.frz _ _ _ e, k.frz _ _ _ e2, ks.mono fun _ _ _ q => q.mono k, d1.mono k, d2.mono k, d3.mono k⟩
/-- a state under work: p, B, W, N, G stand open; R for what B holds -/
structure StaOp (K : PySem.W.Frag) (H : Hp) (R : Pth → V → Bg → Prop) (p B W N G : Addr) (s : Sta) : Prop where
  ins : ∃ dx, H p = some (.ins (He.ga K "State") dx (staF B (.ref W) (.ref N) (.ref G)))
  bgs : ∃ kvs, H B = some (.dT kvs) ∧ Ks R kvs s.bgs
  wt : ∃ xs, H W = some (.lst xs) ∧ Dl H xs (s.wt.map wtD)
  pn : ∃ xs, H N = some (.lst xs) ∧ Dl H xs (s.pn.map pnD)
  gn : ∃ xs, H G = some (.lst xs) ∧ Dl H xs (s.gn.map gnD)
def AsAt (K : PySem.W.Frag) (H : Hp) : List V → List Act → Prop
  | [], [] => True
  | v :: r, a :: t => ActAt K H v a ∧ AsAt K H r t
  | _, _ => False
theorem AsAt.mono {L : List Addr} {H Ha : Hp} (k : Kp L H Ha) : ∀ {xs : List V} {as : List Act}, AsAt K H xs as → AsAt K Ha xs as
  | [], [], _ => trivial
  | _ :: _, _ :: _, ⟨a, b⟩ => ⟨a.mono k, AsAt.mono k b⟩
  | [], _ :: _, q => q.elim
  | _ :: _, [], q => q.elim
theorem AsAt.len {H : Hp} : ∀ {xs : List V} {as : List Act}, AsAt K H xs as → xs.length = as.length
  | [], [], _ => rfl
  | _ :: _, _ :: _, ⟨_, b⟩ => by simp [AsAt.len b]
  | [], _ :: _, q => q.elim
  | _ :: _, [], q => q.elim
theorem AsAt.at {H : Hp} : ∀ {xs : List V} {as : List Act} {i : Nat} {v : V}, AsAt K H xs as → xs[i]? = some v → ∃ a, as[i]? = some a ∧ ActAt K H v a
  | v :: r, a :: t, 0, _, ⟨h, _⟩, e => by simp only [List.getElem?_cons_zero] at e ⊢; cases e; exact ⟨a, rfl, h⟩
  | _ :: r, _ :: t, i + 1, _, ⟨_, c⟩, e => by simp only [List.getElem?_cons_succ] at e ⊢; exact AsAt.at c e
  | [], _, _, _, _, e => by simp at e
  | _ :: _, [], _, _, q, _ => q.elim
def efD (p : Str × Int) : PyData := .tuple [.str p.1, .int p.2]
def PrgAt (K : PySem.W.Frag) (H : Hp) (v : V) (prg : Prg) : Prop := ∃ p o dx ve l ol xs, v = .ref p ∧ H p = some (.frz o (.ins (He.ga K "Program") dx [("effects", ve), ("actors", .ref l)])) ∧ H l = some (.frz ol (.lst xs)) ∧ AsAt K H xs prg.acts ∧ Di H ve (.list (prg.effs.map efD))
theorem PrgAt.mono {L : List Addr} {H Ha : Hp} {v : V} {prg : Prg} (h : PrgAt K H v prg) (k : Kp L H Ha) : PrgAt K Ha v prg := by
  obtain ⟨p, o, dx, ve, l, ol, xs, rfl, e, e2, a, d⟩ := h
  exact ⟨p, o, dx, ve, l, ol, xs, rfl, k.frz _ _ _ e, k.frz _ _ _ e2, a.mono k, d.mono k⟩
end
end Rk
/-! retroact.machine: Being and State made. -/
namespace Rk
open PySem PySem.Spec PyProof.Rows L2
theorem nodup_at {α : Type} {N : List α} (hN : N.Nodup) {i j : Nat} {x : α} (a : N[i]? = some x) (b : N[j]? = some x) : i = j := by
  obtain ⟨h1, e1⟩ := List.getElem?_eq_some_iff.mp a
  obtain ⟨h2, e2⟩ := List.getElem?_eq_some_iff.mp b
  exact (List.getElem_inj hN).mp (e1.trans e2.symm)
theorem take_putK {kvs : List (List Key × V)} {i : Nat} {k : List Key} {v : V} (nd : (kvs.map (·.1)).Nodup) (h : kvs[i]? = some (k, v)) : putK (kvs.take i) k v = kvs.take (i + 1) := by
  have lt := (List.getElem?_eq_some_iff.mp h).1
  have no : valV (kvs.take i) k = none := by
    cases q : valV (kvs.take i) k with
    | none => rfl
    | some u =>
      exfalso
      unfold valV at q
      cases z : (kvs.take i).find? (fun kv => decide (kv.1 = k)) with
      | none => rw [z] at q; cases q
      | some p =>
        have m := List.mem_of_find?_eq_some z
        have e : p.1 = k := of_decide_eq_true (List.find?_some (p := fun kv : List Key × V => decide (kv.1 = k)) z)
        obtain ⟨j, hj⟩ := List.mem_iff_getElem?.mp m
        have jl : j < i := by
          have := (List.getElem?_eq_some_iff.mp hj).1
          rw [List.length_take] at this
          omega
        rw [List.getElem?_take_of_lt jl] at hj
        have a1 : (kvs.map (·.1))[j]? = some k := by rw [List.getElem?_map, hj]; exact congrArg some e
        have a2 : (kvs.map (·.1))[i]? = some k := by rw [List.getElem?_map, h]; rfl
        have e3 : j = i := nodup_at nd a1 a2
        omega
  rw [putK_new v no, List.take_add_one, h]
  rfl
/-- {path: being for path, being in d.items()}: the same pairs in a new dict -/
theorem dcB_copyT {K : PySem.W.Frag} {d : Addr} {o : Obj} {kvs : List (List Key × V)} {σ : L2.St} {own : List Nat} {Ha : Hp} {D : Addr} {Qd : Hp → Prop} {a b : Nat} (nd : (kvs.map (·.1)).Nodup) (sz : kvs.length ≤ 100000) (ow : own = [a, b]) (nD : Ha D = none) (ed : Ha d = some (.frz o (.dT kvs)))
    (wp : ∀ (i : Nat) (T : Addr) (kx vx : V) (Hb : Hp), (((wipe σ own).set a (some kx)).set b (some vx))[a]? = some (some kx) ∧ (((wipe σ own).set a (some kx)).set b (some vx))[b]? = some (some vx) ∧ wipe (((wipe σ own).set a (some kx)).set b (some vx)) own = wipe σ own)
    (he : ∀ Hb, Kp [] Ha Hb → Hb D = some (.dT kvs) → Qd Hb) :
    ∃ o0, (o0 = HO.dK [] ∨ o0 = HO.dT []) ∧ ∃ W : Nat → Nat → Hp → Prop, (∃ m, W 0 m (upd Ha D o0)) ∧ ∀ i m Hb, W i m Hb → ((ItP d (.frz o (.dT kvs)) kvs.length (prT kvs)).stop i Hb ∧ Qd Hb) ∨ ((ItP d (.frz o (.dT kvs)) kvs.length (prT kvs)).go i Hb ∧ ∃ Nx : Hp → Prop, (∀ Hz, Nx Hz → ∃ k, k < m ∧ W (i + 1) k Hz) ∧
      ∀ x Hz, (ItP d (.frz o (.dT kvs)) kvs.length (prT kvs)).yld i Hb x Hz → gTup K 2 (gCons (gName a) (gCons (gName b) gNil)) x (wipe σ own) Hz fun σb Hd => wipe σb own = wipe σ own ∧ tVar a σb Hd fun y He => tVar b σb He fun z Hf => ∃ Hg, DPut Hf D y z Hg ∧ Nx Hg) := by
  refine dcB_list (.inr rfl) (fun i Hb => Kp [] Ha Hb ∧ Hb D = some (.dT (kvs.take i))) ⟨Kp.refl.new nD, upd_same⟩ (fun i Hb p => p.1.frz _ _ _ ed) (fun i T kx vx Hb lt ⟨kb, eD⟩ ⟨key, q, hk, ek, eq⟩ nT => ?_) fun Hb ⟨kb, eD⟩ => he Hb kb (by
    rw [List.take_length] at eD
    exact eD)
  subst ek
  have hDT : D ≠ T := ne_of_none eD nT
  have eD2 : (upd Hb T (.tup [.ref q, vx])) D = some (.dT (kvs.take i)) := (upd_ne hDT).trans eD
  have lt2 : (kvs.take i).length < sizeLine := by rw [List.length_take]; exact small' (by omega)
  obtain ⟨w1, w3, w2⟩ := wp i T (.ref q) vx Hb
  have eq2 : (upd Hb T (.tup [.ref q, vx])) q = some (.tup (key.map kV)) := (upd_ne (ne_of_none eq nT)).trans eq
  refine ⟨T, _, rfl, SqT.of upd_same, rfl, _, _, rfl, _, _, rfl, rfl, w2, _, w1, _, w3, _, DPut.t (k := key) eD2 eq2 lt2, ?_, ?_⟩
  · exact ((kb.new nT).own nD)
  · rw [upd_same, take_putK nd hk]
section
variable {K : PySem.W.Frag} {mg : Str → Option Value} {P : Program} {w : World} {base : Heap}
def spBn (K : PySem.W.Frag) : Sp := fun vs H Q _ => ∃ o dx sd od b, vs = [.ref o, .str b.kind, .ref sd, .int b.spawned, .int b.sent, .int b.called, .str b.mode] ∧ H o = some (.ins (He.ga K "Being") dx []) ∧ H sd = some (.frz od (.dK (dN b.sts))) ∧ (b.sts.map (·.1)).Nodup ∧ b.sts.length ≤ 1000 ∧
  ∀ Ha D oz, Kp [o] H Ha → Ha o = some (.ins (He.ga K "Being") dx (bgF b D)) → Ha D = some (.frz oz (.dK (dN b.sts))) → Q .non Ha
theorem ok_Being_init (T : Tx K mg) : FnOk P w K mg base (L2N.CX P w) 1 (He.ma K (He.ga K "Being") "__init__") T.fd_Being_init P_Being_init (spBn K) := by
  refine T.D_Being_init.ok sc_Being_init (fun vs H Q E h => by obtain ⟨o, dx, sd, od, b, rfl, _⟩ := h; rfl) fun cdv A outer s H vs Q E hr h => ⟨_, (pss_cons (ps_fe T.c_Being T.n_Being_kind (pv 0) (pv 1))
    (pss_cons (ps_fe T.c_Being T.n_Being_states (pv 0) (pe_fz (pe_dcB (g := gTup K 2 (gCons (gName 7) (gCons (gName 8) gNil))) (tk := tVar 7) (tv := tVar 8) (own := [("name", 7), ("value", 8)]) (.inl rfl) (hu_of hr) sc_Being_init.nd (pi_pairs (pv 2)) (blkOk_by (own := [("name", 7), ("value", 8)]) (N := N_Being_init) (sc := defScope sBeing_init) (by decide +kernel)) (fun _ _ _ _ _ => (pg_tupB (n := 2) (.inl rfl) (pgs_cons (pg_name (i := 7) sc_Being_init.nd rfl (.inl rfl) (hf := .inr rfl)) (pgs_cons (pg_name (i := 8) sc_Being_init.nd rfl (.inl rfl) (hf := .inr rfl)) pgs_nil)))) (fun _ _ _ _ _ => (pv 7)) (fun _ _ _ _ _ => (pv 8)))))
    (pss_cons (ps_fe T.c_Being T.n_Being_spawned (pv 0) (pv 3))
    (pss_cons (ps_fe T.c_Being T.n_Being_sent (pv 0) (pv 4))
    (pss_cons (ps_fe T.c_Being T.n_Being_called (pv 0) (pv 5))
    (pss_one (ps_fe T.c_Being T.n_Being_mode (pv 0) (pv 6)))))))), ?_⟩
  obtain ⟨o, dx, sd, od, b, rfl, eo, es, nd, sz, q⟩ := h
  refine ⟨_, rfl, _, rfl, o, dx, _, rfl, eo, (by decide : (0 : Nat) < 1000), ?_⟩
  have k1 : Kp [o] H (upd H o (.ins (He.ga K "Being") dx [("kind", .str b.kind)])) := Kp.refl.wr (by simp) eo
  have s1 : (upd H o (.ins (He.ga K "Being") dx [("kind", .str b.kind)])) o = some (.ins (He.ga K "Being") dx [("kind", .str b.kind)]) := upd_same
  refine ⟨_, rfl, sd, od, rfl, .inl ⟨_, k1.frz _ _ _ es, fun D nD => dcB_copy nd sz rfl nD (k1.frz _ _ _ es) (fun i T kx vx Hb => ⟨rfl, rfl, rfl⟩) fun Hb kb eD => ?_⟩⟩
  have nD0 : H D = none := k1.dom _ nD
  have hoD : o ≠ D := fun z => by rw [z, nD0] at eo; cases eo
  refine ⟨D, _, eD, True.intro, fun oz => ?_⟩
  have k2 : Kp [o] H (upd Hb D (.frz oz (.dK (dN b.sts)))) := (k1.then0 kb).own nD0
  have s2 : (upd Hb D (.frz oz (.dK (dN b.sts)))) o = some (.ins (He.ga K "Being") dx [("kind", .str b.kind)]) := (upd_ne hoD).trans (kb.same _ _ s1)
  refine ⟨_, rfl, o, dx, _, rfl, s2, (by decide : (1 : Nat) < 1000), _, rfl, _, rfl, o, dx, _, rfl, upd_same, (by decide : (2 : Nat) < 1000), _, rfl, _, rfl, o, dx, _, rfl, upd_same, (by decide : (3 : Nat) < 1000), _, rfl, _, rfl, o, dx, _, rfl, upd_same, (by decide : (4 : Nat) < 1000), _, rfl, _, rfl, o, dx, _, rfl, upd_same, (by decide : (5 : Nat) < 1000), ?_⟩
  refine q _ D oz (((((k2.wr (by simp) s2).wr (by simp) upd_same).wr (by simp) upd_same).wr (by simp) upd_same).wr (by simp) upd_same) upd_same ?_
  rw [upd_ne (Ne.symm hoD), upd_ne (Ne.symm hoD), upd_ne (Ne.symm hoD), upd_ne (Ne.symm hoD), upd_ne (Ne.symm hoD), upd_same]
def spSn (K : PySem.W.Frag) : Sp := fun vs H Q _ => ∃ o dx B ob kvs a1 a2 a3 x1 x2 x3, vs = [.ref o, .ref B, .ref a1, .ref a2, .ref a3] ∧ H o = some (.ins (He.ga K "State") dx []) ∧ H B = some (.frz ob (.dT kvs)) ∧ (kvs.map (·.1)).Nodup ∧ kvs.length ≤ 100000 ∧
  (∀ Ha, Kp [o] H Ha → SqL K Ha a1 x1 ∧ SqL K Ha a2 x2 ∧ SqL K Ha a3 x3) ∧
  ∀ Ha D l1 l2 l3, Kp [o] H Ha → Ha o = some (.ins (He.ga K "State") dx (staF D (.ref l1) (.ref l2) (.ref l3))) → Ha D = some (.dT kvs) → Ha l1 = some (.lst x1) → Ha l2 = some (.lst x2) → Ha l3 = some (.lst x3) → H D = none → H l1 = none → H l2 = none → H l3 = none → D ≠ o ∧ l1 ≠ o ∧ l2 ≠ o ∧ l3 ≠ o → l1 ≠ l2 ∧ l1 ≠ l3 ∧ l2 ≠ l3 → Q .non Ha
theorem ok_State_init (T : Tx K mg) : FnOk P w K mg base (L2N.CX P w) 1 (He.ma K (He.ga K "State") "__init__") T.fd_State_init P_State_init (spSn K) := by
  refine T.D_State_init.ok sc_State_init (fun vs H Q E h => by obtain ⟨o, dx, B, ob, kvs, a1, a2, a3, x1, x2, x3, rfl, _⟩ := h; rfl) fun cdv A outer s H vs Q E hr h => ⟨_, (pss_cons (ps_fe T.c_State T.n_State_beings (pv 0) (pe_dcB (g := gTup K 2 (gCons (gName 5) (gCons (gName 6) gNil))) (tk := tVar 5) (tv := tVar 6) (own := [("path", 5), ("being", 6)]) (.inl rfl) (hu_of hr) sc_State_init.nd (pi_pairs (pv 1)) (blkOk_by (own := [("path", 5), ("being", 6)]) (N := N_State_init) (sc := defScope sState_init) (by decide +kernel)) (fun _ _ _ _ _ => (pg_tupB (n := 2) (.inl rfl) (pgs_cons (pg_name (i := 5) sc_State_init.nd rfl (.inl rfl) (hf := .inr rfl)) (pgs_cons (pg_name (i := 6) sc_State_init.nd rfl (.inl rfl) (hf := .inr rfl)) pgs_nil)))) (fun _ _ _ _ _ => (pv 5)) (fun _ _ _ _ _ => (pv 6))))
    (pss_cons (ps_fe T.c_State T.n_State_waiting (pv 0) (pe_callTy call_list_of (by rfl) T.f_list (by decide +kernel) (pa_cons (pv 2) pa_nil)))
    (pss_cons (ps_fe T.c_State T.n_State_pending (pv 0) (pe_callTy call_list_of (by rfl) T.f_list (by decide +kernel) (pa_cons (pv 3) pa_nil)))
    (pss_one (ps_fe T.c_State T.n_State_gone (pv 0) (pe_callTy call_list_of (by rfl) T.f_list (by decide +kernel) (pa_cons (pv 4) pa_nil))))))), ?_⟩
  obtain ⟨o, dx, B, ob, kvs, a1, a2, a3, x1, x2, x3, rfl, eo, es, nd, sz, hl, q⟩ := h
  refine ⟨_, rfl, B, ob, rfl, .inr ⟨_, es, fun D nD => dcB_copyT nd sz rfl nD es (fun i T kx vx Hb => ⟨rfl, rfl, rfl⟩) fun Hb kb eD => ?_⟩⟩
  have hDo : D ≠ o := fun z => by rw [z, eo] at nD; cases nD
  have s0 := kb.same _ _ eo
  refine ⟨_, rfl, o, dx, _, rfl, s0, (by decide : (0 : Nat) < 1000), ?_⟩
  have k1 : Kp [o] H (upd Hb o (.ins (He.ga K "State") dx [("beings", .ref D)])) := (Kp.refl.then0 kb).wr (by simp) s0
  have d1 : (upd Hb o (.ins (He.ga K "State") dx [("beings", .ref D)])) D = some (.dT kvs) := (upd_ne hDo).trans eD
  refine ⟨_, rfl, a1, x1, rfl, .inl (hl _ k1).1, fun l1 n1 => ⟨_, rfl, o, dx, _, rfl, (upd_ne (ne_of_none upd_same n1)).trans upd_same, (by decide : (1 : Nat) < 1000), ?_⟩⟩
  have h1o : l1 ≠ o := fun z => by rw [z, upd_same] at n1; cases n1
  have h1D : D ≠ l1 := ne_of_none d1 n1
  have k2 : Kp [o] H (upd (upd (upd Hb o (.ins (He.ga K "State") dx [("beings", .ref D)])) l1 (.lst x1)) o (.ins (He.ga K "State") dx [("beings", .ref D), ("waiting", .ref l1)])) := (k1.new n1).wr (by simp) ((upd_ne (Ne.symm h1o)).trans upd_same)
  have d2 : (upd (upd (upd Hb o (.ins (He.ga K "State") dx [("beings", .ref D)])) l1 (.lst x1)) o (.ins (He.ga K "State") dx [("beings", .ref D), ("waiting", .ref l1)])) D = some (.dT kvs) := (upd_ne hDo).trans ((upd_ne h1D).trans d1)
  have w2 : (upd (upd (upd Hb o (.ins (He.ga K "State") dx [("beings", .ref D)])) l1 (.lst x1)) o (.ins (He.ga K "State") dx [("beings", .ref D), ("waiting", .ref l1)])) l1 = some (.lst x1) := (upd_ne h1o).trans upd_same
  have i2 : (upd (upd (upd Hb o (.ins (He.ga K "State") dx [("beings", .ref D)])) l1 (.lst x1)) o (.ins (He.ga K "State") dx [("beings", .ref D), ("waiting", .ref l1)])) o = some (.ins (He.ga K "State") dx [("beings", .ref D), ("waiting", .ref l1)]) := upd_same
  have n1H := k1.dom _ n1
  refine ⟨_, rfl, a2, x2, rfl, .inl (hl _ k2).2.1, fun l2 n2 => ?_⟩
  have h2o : l2 ≠ o := fun z => by rw [z] at n2; exact absurd (i2.symm.trans n2) (fun z => nomatch z)
  have n2H : H l2 = none := k2.dom _ n2
  have h12 : l1 ≠ l2 := ne_of_none w2 n2
  have hD2 : D ≠ l2 := ne_of_none d2 n2
  refine ⟨_, rfl, o, dx, [("beings", .ref D), ("waiting", .ref l1)], rfl, (upd_ne (Ne.symm h2o)).trans i2, (by decide : (2 : Nat) < 1000), ?_⟩
  have k3 := (k2.new (o := .lst x2) n2).wr (p := o) (o := .ins (He.ga K "State") dx [("beings", .ref D), ("waiting", .ref l1), ("pending", .ref l2)]) (by simp) ((upd_ne (Ne.symm h2o)).trans i2)
  have d3 : (upd (upd _ l2 (.lst x2)) o (.ins (He.ga K "State") dx [("beings", .ref D), ("waiting", .ref l1), ("pending", .ref l2)])) D = some (.dT kvs) := (upd_ne hDo).trans ((upd_ne hD2).trans d2)
  have w3 : (upd (upd _ l2 (.lst x2)) o (.ins (He.ga K "State") dx [("beings", .ref D), ("waiting", .ref l1), ("pending", .ref l2)])) l1 = some (.lst x1) := (upd_ne h1o).trans ((upd_ne h12).trans w2)
  refine ⟨_, rfl, a3, x3, rfl, .inl (hl _ k3).2.2, fun l3 n3 => ?_⟩
  have h3o : l3 ≠ o := fun z => by rw [z] at n3; exact absurd ((upd_same (H := upd _ l2 (.lst x2)) (a := o)).symm.trans n3) (fun z => nomatch z)
  have n3H : H l3 = none := k3.dom _ n3
  have hD3 : D ≠ l3 := ne_of_none d3 n3
  have h13 : l1 ≠ l3 := ne_of_none w3 n3
  have h23 : l2 ≠ l3 := ne_of_none ((upd_ne h2o).trans upd_same) n3
  refine ⟨_, rfl, o, dx, [("beings", .ref D), ("waiting", .ref l1), ("pending", .ref l2)], rfl, (upd_ne (Ne.symm h3o)).trans upd_same, (by decide : (3 : Nat) < 1000), ?_⟩
  refine q _ D l1 l2 l3 ((k3.new n3).wr (by simp) ((upd_ne (Ne.symm h3o)).trans upd_same)) upd_same ?_ ?_ ?_ ?_ nD n1H n2H n3H ⟨hDo, h1o, h2o, h3o⟩ ⟨h12, h13, h23⟩
  · exact (upd_ne hDo).trans ((upd_ne hD3).trans d3)
  · exact (upd_ne h1o).trans ((upd_ne h13).trans w3)
  · exact (upd_ne h2o).trans ((upd_ne h23).trans ((upd_ne h2o).trans upd_same))
  · exact (upd_ne h3o).trans upd_same
end
end Rk
/-! retroact.machine: actors, handlers, beings looked up and copied. -/
namespace Rk
open PySem PySem.Spec PyProof.Rows L2
theorem dS {x y : Str} : decide (V.str x = V.str y) = decide (x = y) := by
  by_cases e : x = y
  · rw [e]; simp
  · rw [decide_eq_false e, decide_eq_false fun z => e (V.str.inj z)]
theorem find_drop {α : Type} {p : α → Bool} {l : List α} {i : Nat} {a : α} (h : l[i]? = some a) : (l.drop i).find? p = if p a = true then some a else (l.drop (i + 1)).find? p := by
  obtain ⟨lt, e⟩ := List.getElem?_eq_some_iff.mp h
  rw [List.drop_eq_getElem_cons lt, e, List.find?_cons]
  cases p a <;> rfl
section
variable {K : PySem.W.Frag} {mg : Str → Option Value} {P : Program} {w : World} {base : Heap}
def spAo (K : PySem.W.Frag) : Sp := fun vs H Q _ => ∃ v k prg a, vs = [v, .str k] ∧ PrgAt K H v prg ∧ actOf prg k = some a ∧ ∀ u, ActAt K H u a → Q u H
theorem ok_actor_of (T : Tx K mg) : FnOk P w K mg base (L2N.CX P w) 1 (He.ga K "_actor_of") T.fd_actor_of P_actor_of (spAo K) := by
  refine T.D_actor_of.ok sc_actor_of (fun vs H Q E h => by obtain ⟨v, k, prg, a, rfl, _⟩ := h; rfl) fun cdv A outer s H vs Q E hr h => ⟨_, (pss_cons (ps_for PassesOwn.leaving rfl (pi_list (pe_att T.c_Program T.n_Program_actors (pv 0))) (pg_name (i := 2) sc_actor_of.nd rfl (.inl rfl))
    (pss_one (ps_if (pt_cmpR op_eq (pe_att T.c_Actor T.n_Actor_name (pv 2)) (pv 1) (nomark _))
    (pss_one (ps_ret (pv 2)))
    pss_nil)))
    (pss_one (ps_ret pe_non))), ?_⟩
  obtain ⟨v, k, prg, a, rfl, pa, ha, q⟩ := h
  obtain ⟨p, o, dx, ve, l, ol, xs, rfl, ep, el, as, de⟩ := pa
  refine ⟨_, rfl, p, o, dx, _, _, rfl, ep, rfl, l, rfl, ⟨xs, .inl (.inr ⟨ol, el⟩)⟩, for_list (xs := xs) (fun i σ Hb => ∃ tv, σ = [some (.ref p), some (.str k), tv] ∧ Hb = H ∧ (prg.acts.drop i).find? (fun a => decide (a.nam = k)) = some a) ⟨none, rfl, rfl, ha⟩ (fun i σ Hb _ ⟨_, _, e, _⟩ => by subst e; exact .inl (.inr ⟨ol, el⟩)) (fun i x σ Hb hx ⟨tv, eσ, eH, hf⟩ => ?_) fun σ Hb ⟨tv, eσ, eH, hf⟩ => ?_⟩
  · subst eσ eH
    obtain ⟨b, hb, ab⟩ := as.at hx
    rw [find_drop hb] at hf
    obtain ⟨p2, o2, dx2, vp, vs, vh, rfl, e2, d1, d2, d3⟩ := id ab
    refine ⟨_, rfl, p2, o2, dx2, _, _, rfl, e2, rfl, _, rfl, rfl, _, rfl, ?_⟩
    rw [dS]
    by_cases e : b.nam = k
    · refine iT (decide_eq_true e) ?_
      rw [if_pos (decide_eq_true e)] at hf
      cases hf
      exact ⟨_, rfl, q _ ab⟩
    · refine iF (decide_eq_false e) ?_
      rw [if_neg (by simp [e])] at hf
      exact ⟨_, rfl, rfl, hf⟩
  · rw [as.len, List.drop_length] at hf
    cases hf
def spHo (K : PySem.W.Frag) : Sp := fun vs H Q _ => ∃ v k m n prg a, vs = [v, .str k, .str m, .int (n : Nat)] ∧ PrgAt K H v prg ∧ actOf prg k = some a ∧ (∀ u h, hdOf a m n = some h → Di H u (hdD h) → Q u H) ∧ (hdOf a m n = none → Q .non H)
theorem ok_handler_of (T : Tx K mg) : FnOk P w K mg base (L2N.CX P w) 2 (He.ga K "_handler_of") T.fd_handler_of P_handler_of (spHo K) := by
  refine T.D_handler_of.ok sc_handler_of (fun vs H Q E h => by obtain ⟨v, k, m, n, prg, a, rfl, _⟩ := h; rfl) fun cdv A outer s H vs Q E hr h => ⟨_, (pss_cons (ps_for PassesOwn.leaving rfl (pi_list (pe_att T.c_Actor T.n_Actor_handlers (pe_callS (ok_actor_of T) hr rfl T.g__actor_of T.p_actor_of T.b_actor_of (fun σ => L2N.passAt (L2N.takes_of rfl rfl rfl rfl) σ) (pa_cons (pv 0) (pa_cons (pv 1) pa_nil))))) (pg_name (i := 4) sc_handler_of.nd rfl (.inl rfl))
    (pss_one (ps_if (PW.pt (pw_and (pt_cmpR op_eq (pe_ti (pv 4)) (pv 2) (nomark _)) (pw_and1 (pt_cmpR op_eq (pe_callB call_len_seq (by rfl) T.f_len (by decide +kernel) (pa_cons (pe_ti (pv 4)) pa_nil)) (pv 3) (nomark _)))))
    (pss_one (ps_ret (pv 4)))
    pss_nil)))
    (pss_one (ps_ret pe_non))), ?_⟩
  obtain ⟨v, k, m, n, prg, a, rfl, pa, ha, q1, q2⟩ := h
  refine ⟨_, rfl, _, rfl, v, k, prg, a, rfl, pa, ha, fun u au => ?_⟩
  obtain ⟨p2, o2, dx2, vp, vs, vh, rfl, e2, d1, d2, d3⟩ := au
  obtain ⟨l, ol, xs, rfl, el, dl⟩ := d3.inv_lst
  have lx : xs.length = a.hds.length := by rw [dl.length, List.length_map]
  refine ⟨p2, o2, dx2, _, _, rfl, e2, rfl, l, rfl, ⟨xs, .inl (.inr ⟨ol, el⟩)⟩, for_list (xs := xs) (fun i σ Hb => ∃ tv, σ = [some v, some (.str k), some (.str m), some (.int (n : Nat)), tv] ∧ Hb = H ∧ hdOf a m n = (a.hds.drop i).find? (fun h => decide (h.msg = m ∧ h.pars.length = n))) ⟨none, rfl, rfl, rfl⟩ (fun i σ Hb _ ⟨_, _, e, _⟩ => by subst e; exact .inl (.inr ⟨ol, el⟩)) (fun i x σ Hb hx ⟨tv, eσ, eH, hf⟩ => ?_) fun σ Hb ⟨tv, eσ, eH, hf⟩ => ?_⟩
  · subst eσ eH
    obtain ⟨de, hde, dx⟩ := dl.at' hx
    rw [List.getElem?_map] at hde
    obtain ⟨h, hh, rfl⟩ : ∃ h, a.hds[i]? = some h ∧ hdD h = de := by
      cases q : a.hds[i]? with
      | none => rw [q] at hde; cases hde
      | some e => rw [q] at hde; exact ⟨e, rfl, Option.some.inj hde⟩
    rw [find_drop hh] at hf
    obtain ⟨p, v0, v1, v2, rfl, ep, e0, e1, e3⟩ := Di.inv3 (show Di Hb x (.tuple [.str h.msg, .list (h.pars.map .str), .list (bdD h.body)]) from dx)
    cases e0.inv_str
    obtain ⟨lp, op, xp, rfl, elp, dlp⟩ := e1.inv_lst
    have lxp : xp.length = h.pars.length := by rw [dlp.length, List.length_map]
    refine ⟨_, rfl, p, _, _, rfl, ep, rfl, _, rfl, rfl, ?_⟩
    rw [dS]
    refine ⟨_, rfl, ?_⟩
    by_cases c1 : h.msg = m
    · refine iT (decide_eq_true c1) ⟨_, rfl, p, _, _, rfl, ep, rfl, lp, xp, rfl, .inl (.inl (.inr ⟨op, elp⟩)), _, rfl, rfl, ?_⟩
      rw [dI, lxp]
      by_cases c2 : h.pars.length = n
      · refine ⟨_, rfl, iT (decide_eq_true (by rw [c2])) ⟨_, rfl, ?_⟩⟩
        rw [if_pos (decide_eq_true ⟨c1, c2⟩)] at hf
        exact q1 _ h hf dx
      · refine ⟨_, rfl, iF (decide_eq_false fun z => c2 (Int.ofNat.inj z)) ⟨_, rfl, rfl, ?_⟩⟩
        rw [if_neg (by simp [c2])] at hf
        exact hf
    · refine iF (decide_eq_false c1) ⟨_, rfl, rfl, ?_⟩
      rw [if_neg (by simp [c1])] at hf
      exact hf
  · rw [lx, List.drop_length] at hf
    subst eH
    exact q2 hf
def bgV (b : Bg) (D : Addr) : List V := [.str b.kind, .ref D, .int b.spawned, .int b.sent, .int b.called, .str b.mode]
def spBp (K : PySem.W.Frag) : Sp := fun vs H Q _ => ∃ p o dx b D, vs = [.ref p] ∧ H p = some (.frz o (.ins (He.ga K "Being") dx (bgF b D))) ∧ ∀ t, H t = none → Q (.ref t) (upd H t (.tup (bgV b D)))
theorem ok_being_parts (T : Tx K mg) : FnOk P w K mg base (L2N.CX P w) 1 (He.ga K "being_parts") T.fd_being_parts P_being_parts (spBp K) := by
  refine T.D_being_parts.ok sc_being_parts (fun vs H Q E h => by obtain ⟨p, o, dx, b, D, rfl, _⟩ := h; rfl) fun cdv A outer s H vs Q E hr h => ⟨_, (pss_one (ps_ret (pe_tup (pa_cons (pe_att T.c_Being T.n_Being_kind (pv 0)) (pa_cons (pe_att T.c_Being T.n_Being_states (pv 0)) (pa_cons (pe_att T.c_Being T.n_Being_spawned (pv 0)) (pa_cons (pe_att T.c_Being T.n_Being_sent (pv 0)) (pa_cons (pe_att T.c_Being T.n_Being_called (pv 0)) (pa_cons (pe_att T.c_Being T.n_Being_mode (pv 0)) pa_nil))))))))), ?_⟩
  obtain ⟨p, o, dx, b, D, rfl, ep, q⟩ := h
  exact ⟨_, rfl, p, o, dx, _, _, rfl, ep, rfl, _, rfl, p, o, dx, _, _, rfl, ep, rfl, _, rfl, p, o, dx, _, _, rfl, ep, rfl, _, rfl, p, o, dx, _, _, rfl, ep, rfl, _, rfl, p, o, dx, _, _, rfl, ep, rfl, _, rfl, p, o, dx, _, _, rfl, ep, rfl, by show 6 ≤ sizeLine; decide, fun t nt => q t nt⟩
def spCp (K : PySem.W.Frag) : Sp := fun vs H Q _ => ∃ v b, vs = [v] ∧ BgAt K H v b ∧ StsOk b.sts ∧ ∀ Ha r dx D oz, Kp [] H Ha → H r = none → Ha r = some (.ins (He.ga K "Being") dx (bgF b D)) → Ha D = some (.frz oz (.dK (dN b.sts))) → Q (.ref r) Ha
theorem ok_copied (T : Tx K mg) : FnOk P w K mg base (L2N.CX P w) 3 (He.ga K "_copied") T.fd_copied P_copied (spCp K) := by
  obtain ⟨mv, ba⟩ := T.ba_Being_init
  refine T.D_copied.ok sc_copied (fun vs H Q E h => by obtain ⟨v, b, rfl, _⟩ := h; rfl) fun cdv A outer s H vs Q E hr h => ⟨_, (pss_cons (ps_asg (pe_callS (ok_being_parts T) (hr.mono (by decide)) rfl T.g_being_parts T.p_being_parts T.b_being_parts (fun σ => L2N.passAt (L2N.takes_of rfl rfl rfl rfl) σ) (pa_cons (pv 0) pa_nil)) (pg_tup rfl (pgs_cons (pg_name (i := 1) sc_copied.nd rfl (.inl rfl)) (pgs_cons (pg_name (i := 2) sc_copied.nd rfl (.inl rfl)) (pgs_cons (pg_name (i := 3) sc_copied.nd rfl (.inl rfl)) (pgs_cons (pg_name (i := 4) sc_copied.nd rfl (.inl rfl)) (pgs_cons (pg_name (i := 5) sc_copied.nd rfl (.inl rfl)) (pgs_cons (pg_name (i := 6) sc_copied.nd rfl (.inl rfl)) pgs_nil))))))))
    (pss_one (ps_ret (pe_makeK T.k_Being (ok_Being_init T) (hr.mono (by decide)) rfl T.g_Being ba pass0 (pa_cons (pv 1) (pa_cons (pv 2) pa_nil)) (pk_cons (pv 3) (pk_cons (pv 4) (pk_cons (pv 5) (pk_cons (pv 6) pk_nil)))))))), ?_⟩
  obtain ⟨v, b, rfl, ab, so, q⟩ := h
  obtain ⟨p, o, dx, D, od, rfl, ep, eD⟩ := ab
  refine ⟨_, rfl, p, o, dx, b, D, rfl, ep, fun t nt => ?_⟩
  have k1 : Kp [] H (upd H t (.tup (bgV b D))) := Kp.refl.new nt
  refine ⟨t, _, rfl, SqT.of upd_same, rfl, _, _, rfl, _, _, rfl, _, _, rfl, _, _, rfl, _, _, rfl, _, _, rfl, rfl, ?_⟩
  refine ⟨_, rfl, _, rfl, _, rfl, _, rfl, _, rfl, _, rfl, rfl, rfl, fun x dx2 nx ndx ne => ?_⟩
  have nxH : H x = none := k1.dom _ nx
  have k2 : Kp [] H (upd (upd (upd H t (.tup (bgV b D))) dx2 (.own x)) x (.ins (He.ga K "Being") dx2 [])) := (k1.new ndx).own nxH
  refine ⟨x, dx2, D, od, b, rfl, upd_same, k2.frz _ _ _ eD, so.nd, by have := so.few; omega, fun Ha D2 oz ka e1 e2 => ⟨rfl, ?_⟩⟩
  exact q Ha x dx2 D2 oz (k2.sub ka fun a m => .inr (by rw [List.mem_singleton.mp m]; exact nxH)) nxH e1 e2
end
end Rk
/-! retroact.machine: born, first_state. -/
namespace Rk
open PySem PySem.Spec PyProof.Rows L2
theorem dc_ofList {K : PySem.W.Frag} {a : Addr} {xs : List V} {g : TG} {tt : TT} {tk tv : TE} {own : List Nat} {σ : L2.St} {Ha : Hp} {D : Addr} {Qd : Hp → Prop} (Pv : Nat → Hp → Prop) (h0 : Pv 0 (upd Ha D (.dK []))) (hl : ∀ i Hb, Pv i Hb → SqL K Hb a xs)
    (hs : ∀ i x Hb, xs[i]? = some x → Pv i Hb → g x (wipe σ own) Hb fun σ2 H2 => wipe σ2 own = wipe σ own ∧ tt σ2 H2 fun b H3 => if b = true then tk σ2 H3 fun y H4 => tv σ2 H4 fun z H5 => ∃ kvs k, y = kV k ∧ H5 D = some (.dK kvs) ∧ kvs.length < sizeLine ∧ Pv (i + 1) (upd H5 D (.dK (putK kvs k z))) else Pv (i + 1) H3) (he : ∀ Hb, Pv xs.length Hb → Qd Hb) :
    ∃ W : Nat → Nat → Hp → Prop, (∃ m, W 0 m (upd Ha D (.dK []))) ∧ ∀ i m H, W i m H → ((Itl K a).stop i H ∧ Qd H) ∨ ((Itl K a).go i H ∧ ∃ Nx : Hp → Prop, (∀ H', Nx H' → ∃ m', m' < m ∧ W (i + 1) m' H') ∧ ∀ x H', (Itl K a).yld i H x H' → g x (wipe σ own) H' fun σ2 H2 => wipe σ2 own = wipe σ own ∧ tt σ2 H2 fun b H3 =>
      if b = true then tk σ2 H3 fun y H4 => tv σ2 H4 fun z H5 => ∃ kvs k, y = kV k ∧ H5 D = some (.dK kvs) ∧ kvs.length < sizeLine ∧ Nx (upd H5 D (.dK (putK kvs k z))) else Nx H3) := by
  refine ⟨fun i m H => m = xs.length - i ∧ i ≤ xs.length ∧ Pv i H, ⟨xs.length, by simp, Nat.zero_le _, h0⟩, ?_⟩
  rintro i m H ⟨rfl, hi, p⟩
  have q := hl i H p
  by_cases hlt : i < xs.length
  · refine .inr ⟨⟨xs, xs[i], q, by simp [hlt]⟩, Pv (i + 1), fun H' p' => ⟨xs.length - (i + 1), by omega, rfl, hlt, p'⟩, fun x H' y => ?_⟩
    obtain ⟨e, y⟩ := y
    subst e
    exact hs i x _ (y xs q) p
  · have e : i = xs.length := by omega
    subst e
    exact .inl ⟨⟨xs, q, Nat.le_refl _⟩, he H p⟩
theorem zeros_keys (a : Act) : (zeros a).map (·.1) = a.sts.map (·.1) := by
  unfold zeros
  rw [List.map_map]
  rfl
structure ActOk2 (a : Act) : Prop extends ActOk a where
  nds : (a.sts.map (·.1)).Nodup
  hds : ∀ h ∈ a.hds, HdOk h (a.sts.map (·.1))
theorem begA_sts {a : Act} {as : List Int} {env : Env} (ok : ActOk a) (ba : ∀ i ∈ as, Bv i) (h : begA a as = some env) : StsOk env := by
  refine ⟨begS_nd h .nil, begS_B h BEnv.nil (BEnv.nil.par fun p m => ba _ (List.of_mem_zip m).2), ?_⟩
  have := begS_len h
  have := ok.few2
  simp at *
  omega
theorem zeros_sts {a : Act} (ok : ActOk2 a) : StsOk (zeros a) := by
  refine ⟨by rw [zeros_keys]; exact ok.nds, fun p m => ?_, ?_⟩
  · obtain ⟨q, _, e⟩ := List.mem_map.mp m
    rw [← e]
    show Bv 0
    exact ⟨by decide, by decide⟩
  · unfold zeros
    rw [List.length_map]
    have := ok.few2
    omega
theorem bornA_sts {k : Str} {a : Act} {as : List Int} (ok : ActOk2 a) (ba : ∀ i ∈ as, Bv i) : StsOk (bornA k a as).sts := by
  unfold bornA
  cases e : begA a as with
  | some env => exact begA_sts ok.toActOk ba e
  | none => exact zeros_sts ok
section
variable {K : PySem.W.Frag} {mg : Str → Option Value} {P : Program} {w : World} {base : Heap}
def spBw (K : PySem.W.Frag) : Sp := fun vs H Q _ => ∃ v k t e oe de prg a as, vs = [v, .str k, .ref t, .ref e] ∧ PrgAt K H v prg ∧ actOf prg k = some a ∧ ActOk2 a ∧ H t = some (.tup (as.map V.int)) ∧ as.length = a.pars.length ∧ (∀ i ∈ as, Bv i) ∧ H e = some (.frz oe (.ins (He.ga K "Plain") de [])) ∧
  ∀ Ha u, Kp [] H Ha → BgAt K Ha u (bornA k a as) → Q u Ha
theorem ok_born_with (T : Tx K mg) : FnOk P w K mg base (L2N.CX P w) 10 (He.ga K "_born_with") T.fd_born_with P_born_with (spBw K) := by
  obtain ⟨mv, bm⟩ := T.bm_Being_init
  obtain ⟨ds3, vd, b3⟩ := T.b3_Being_init
  refine T.D_born_with.ok sc_born_with (fun vs H Q E h => by obtain ⟨v, k, t, e, oe, de, prg, a, as, rfl, _⟩ := h; rfl) fun cdv A outer s H vs Q E hr h => ⟨_, (pss_cons (ps_set (i := 4) sc_born_with.nd rfl (.inl rfl) (pe_callS (ok_actor_of T) (hr.mono (by decide)) rfl T.g__actor_of T.p_actor_of T.b_actor_of (fun σ => L2N.passAt (L2N.takes_of rfl rfl rfl rfl) σ) (pa_cons (pv 0) (pa_cons (pv 1) pa_nil))))
    (pss_cons (ps_set (i := 5) sc_born_with.nd rfl (.inl rfl) (pe_meR (pv 3) T.c_Plain T.m_Plain_begin (ok_Plain_begin T) (hr.mono (by decide)) T.b_Plain_begin (fun σ => L2N.passAt (L2N.takes_of rfl rfl rfl rfl) σ) (pa_cons (pv 4) (pa_cons (pv 2) pa_nil))))
    (pss_cons (ps_if (pt_cmpR op_isN (pv 5) pe_non (nomark _))
    (pss_one (ps_ret (pe_fz (pe_makeK T.k_Being (ok_Being_init T) (hr.mono (by decide)) rfl T.g_Being bm pass0 (pa_cons (pv 1) (pa_cons (pe_fz (pe_dc (g := gTup K 2 (gCons (gName 6) (gCons (gName 7) gNil))) (tk := tVar 6) (tv := tC (.int 0)) (own := [("name", 6), ("_", 7)]) rfl sc_born_with.nd (pi_list (pe_att T.c_Actor T.n_Actor_states (pv 4))) (blkOk_by (own := [("name", 6), ("_", 7)]) (N := N_born_with) (sc := defScope s_born_with) (by decide +kernel)) (fun _ _ _ _ _ => (pg_tup (n := 2) rfl (pgs_cons (pg_name (i := 6) sc_born_with.nd rfl (.inl rfl) (hf := .inr rfl)) (pgs_cons (pg_name (i := 7) sc_born_with.nd rfl (.inl rfl) (hf := .inr rfl)) pgs_nil)))) (fun _ _ _ _ _ => pts_nil) (fun _ _ _ _ _ => (pv 6)) (fun _ _ _ _ _ => pe_int))) pa_nil)) (pk_cons pe_str pk_nil)))))
    pss_nil)
    (pss_one (ps_ret (pe_fz (pe_make T.k_Being (ok_Being_init T) (hr.mono (by decide)) rfl T.g_Being b3 vd pass0 (pa_cons (pv 1) (pa_cons (pe_fz (pv 5)) pa_nil))))))))), ?_⟩
  obtain ⟨v, k, t, e, oe, de, prg, a, as, rfl, pa, ha, ok, et, len, ba, ee, q⟩ := h
  refine ⟨_, rfl, _, rfl, v, k, prg, a, rfl, pa, ha, fun u au => ?_⟩
  refine ⟨_, rfl, e, de, [], rfl, .inr ⟨oe, ee⟩, rfl, _, rfl, _, rfl, .ref e, u, a, t, as, rfl, ⟨au, ok.toActOk, et, len, ba⟩, fun env Ha D hb ka nD eD => ?_, fun hb Ha ka => ?_⟩
  · refine ⟨_, rfl, rfl, _, rfl, iF rfl ?_⟩
    refine ⟨_, rfl, _, rfl, D, _, eD, True.intro, fun oz x dx nx ndx ne => ?_⟩
    have k1 : Kp [] H (upd Ha D (.frz oz (.dK (dN env)))) := ka.own nD
    have nxH : H x = none := k1.dom _ nx
    have k2 : Kp [] H (upd (upd (upd Ha D (.frz oz (.dK (dN env)))) dx (.own x)) x (.ins (He.ga K "Being") dx [])) := (k1.new ndx).own nxH
    have eB : bornA k a as = ⟨k, env, 0, 0, 0, "on"⟩ := by unfold bornA; rw [hb]
    have so := begA_sts ok.toActOk ba hb
    have hDx : D ≠ x := ne_of_none (H := upd Ha D (.frz oz (.dK (dN env)))) upd_same nx
    have hDd : D ≠ dx := ne_of_none (H := upd Ha D (.frz oz (.dK (dN env)))) upd_same ndx
    refine ⟨x, dx, D, oz, ⟨k, env, 0, 0, 0, "on"⟩, rfl, upd_same, by rw [upd_ne hDx, upd_ne hDd, upd_same], so.nd, by have := so.few; show env.length ≤ 1000; omega, fun Hb D2 oz2 kb e1 e2 => ⟨rfl, x, _, e1, True.intro, fun oy => ?_⟩⟩
    have k3 : Kp [] H Hb := k2.sub kb fun a m => .inr (by rw [List.mem_singleton.mp m]; exact nxH)
    refine q _ _ (k3.own nxH) ?_
    rw [eB]
    exact ⟨x, oy, dx, D2, oz2, rfl, upd_same, (upd_ne (ne_of e2 e1 fun z => nomatch z)).trans e2⟩
  · refine ⟨_, rfl, rfl, _, rfl, iT rfl ?_⟩
    obtain ⟨p2, o2, dx2, vp, vs, vh, rfl, e2, d1, d2, d3⟩ := au.mono ka
    obtain ⟨l, ol, xs, rfl, el, dl⟩ := d2.inv_lst
    have lx : xs.length = a.sts.length := by rw [dl.length, List.length_map]
    have lz : (zeros a).length = a.sts.length := by unfold zeros; rw [List.length_map]
    have ndz : ((zeros a).map (·.1)).Nodup := by rw [zeros_keys]; exact ok.nds
    have so := zeros_sts ok
    refine ⟨_, rfl, _, rfl, p2, o2, dx2, _, _, rfl, e2, rfl, l, rfl, ⟨xs, .inl (.inr ⟨ol, el⟩)⟩, fun D nD => dc_ofList (xs := xs) (fun i Hb => Kp [] Ha Hb ∧ Hb D = some (.dK (dN ((zeros a).take i)))) ⟨Kp.refl.new nD, upd_same⟩ (fun i Hb p => .inl (.inr ⟨ol, p.1.frz _ _ _ el⟩)) (fun i x Hb hx ⟨kb, eD⟩ => ?_) fun Hb ⟨kb, eD⟩ => ?_⟩
    · obtain ⟨de, hde, dx⟩ := dl.at' hx
      rw [List.getElem?_map] at hde
      obtain ⟨⟨y, ex⟩, hy, rfl⟩ : ∃ q, a.sts[i]? = some q ∧ sxD q = de := by
        cases q : a.sts[i]? with
        | none => rw [q] at hde; cases hde
        | some e => rw [q] at hde; exact ⟨e, rfl, Option.some.inj hde⟩
      obtain ⟨pt, v0, v1, rfl, ept, d0, d1⟩ := Di.inv2 (show Di Hb x (.tuple [.str y, exD ex]) from dx.mono kb)
      cases d0.inv_str
      have hz : (zeros a)[i]? = some (y, 0) := by unfold zeros; rw [List.getElem?_map, hy]; rfl
      refine ⟨pt, _, rfl, SqT.of ept, rfl, _, _, rfl, _, _, rfl, rfl, rfl, iT (B := Kp [] Ha Hb ∧ Hb D = some (.dK (dN ((zeros a).take (i + 1))))) rfl ⟨_, rfl, _, .inr y, rfl, eD, ?_, kb.own nD, ?_⟩⟩
      · unfold dN; rw [List.length_map, List.length_take, lz]; have := ok.few2; exact small' (by omega)
      · rw [upd_same, putK_dN, take_putN ndz hz]
    · rw [lx, ← lz, List.take_length] at eD
      refine ⟨D, _, eD, True.intro, fun oz => ⟨rfl, rfl, fun x dx nx ndx ne => ?_⟩⟩
      have nDH : H D = none := ka.dom _ nD
      have k1 : Kp [] H (upd Hb D (.frz oz (.dK (dN (zeros a))))) := (ka.trans kb).own nDH
      have nxH : H x = none := k1.dom _ nx
      have k2 : Kp [] H (upd (upd (upd Hb D (.frz oz (.dK (dN (zeros a))))) dx (.own x)) x (.ins (He.ga K "Being") dx [])) := (k1.new ndx).own nxH
      have eB : bornA k a as = ⟨k, zeros a, 0, 0, 0, "failed"⟩ := by unfold bornA; rw [hb]
      have hDx : D ≠ x := ne_of_none (H := upd Hb D (.frz oz (.dK (dN (zeros a))))) upd_same nx
      have hDd : D ≠ dx := ne_of_none (H := upd Hb D (.frz oz (.dK (dN (zeros a))))) upd_same ndx
      refine ⟨x, dx, D, oz, ⟨k, zeros a, 0, 0, 0, "failed"⟩, rfl, upd_same, by rw [upd_ne hDx, upd_ne hDd, upd_same], so.nd, by have := so.few; show (zeros a).length ≤ 1000; omega, fun Hc D2 oz2 kc e1 e2 => ⟨rfl, x, _, e1, True.intro, fun oy => ?_⟩⟩
      have k3 : Kp [] H Hc := k2.sub kc fun a m => .inr (by rw [List.mem_singleton.mp m]; exact nxH)
      refine q _ _ (k3.own nxH) ?_
      rw [eB]
      exact ⟨x, oy, dx, D2, oz2, rfl, upd_same, (upd_ne (ne_of e2 e1 fun z => nomatch z)).trans e2⟩
def spBo (K : PySem.W.Frag) : Sp := fun vs H Q _ => ∃ v k t prg a as, vs = [v, .str k, .ref t] ∧ PrgAt K H v prg ∧ actOf prg k = some a ∧ ActOk2 a ∧ H t = some (.tup (as.map V.int)) ∧ as.length = a.pars.length ∧ (∀ i ∈ as, Bv i) ∧
  ∀ Ha u, Kp [] H Ha → BgAt K Ha u (bornA k a as) → Q u Ha
theorem ok_born (T : Tx K mg) : FnOk P w K mg base (L2N.CX P w) 11 (He.ga K "born") T.fd_born P_born (spBo K) := by
  refine T.D_born.ok sc_born (fun vs H Q E h => by obtain ⟨v, k, t, prg, a, as, rfl, _⟩ := h; rfl) fun cdv A outer s H vs Q E hr h => ⟨_, (pss_one (ps_ret (pe_callS (ok_born_with T) hr rfl T.g__born_with T.p_born_with T.b_born_with (fun σ => L2N.passAt (L2N.takes_of rfl rfl rfl rfl) σ) (pa_cons (pv 0) (pa_cons (pv 1) (pa_cons (pv 2) (pa_cons (pe_fz (pe_mk0 T.o_Plain rfl T.g_Plain)) pa_nil))))))), ?_⟩
  obtain ⟨v, k, t, prg, a, as, rfl, pa, ha, ok, et, len, ba, q⟩ := h
  refine ⟨_, rfl, _, rfl, _, rfl, fun x dx nx ndx ne => ⟨x, _, upd_same, True.intro, fun oz => ?_⟩⟩
  have k1 : Kp [] H (upd (upd (upd H dx (.own x)) x (.ins (He.ga K "Plain") dx [])) x (.frz oz (.ins (He.ga K "Plain") dx []))) := ((Kp.refl.new ndx).own nx).own nx
  exact ⟨v, k, t, x, oz, dx, prg, a, as, rfl, pa.mono k1, ha, ok, k1.tup _ _ et, len, ba, upd_same, fun Ha u ka bu => q Ha u (k1.trans ka) bu⟩
end
end Rk
/-! retroact.machine: first_state. -/
namespace Rk
open PySem PySem.Spec PyProof.Rows L2
section
variable {K : PySem.W.Frag} {mg : Str → Option Value} {P : Program} {w : World} {base : Heap}
/-- a state that stands open is locked, part by part -/
theorem lock5 {H : Hp} {p D l1 l2 l3 dx : Addr} {kvs : List (List Key × V)} {x1 x2 x3 : List V} {s : Sta} {Q : VK} {L : List Addr} {H0 : Hp} (k : Kp [] H0 H) (e0 : H p = some (.ins (He.ga K "State") dx (staF D (.ref l1) (.ref l2) (.ref l3)))) (eD : H D = some (.dT kvs)) (e1 : H l1 = some (.lst x1)) (e2 : H l2 = some (.lst x2)) (e3 : H l3 = some (.lst x3))
    (n0 : H0 p = none) (nD : H0 D = none) (n1 : H0 l1 = none) (n2 : H0 l2 = none) (n3 : H0 l3 = none) (h12 : l1 ≠ l2) (h13 : l1 ≠ l3) (h23 : l2 ≠ l3) (ks : Ks (fun _ => BgAt K H) kvs s.bgs) (d1 : Dl H x1 (s.wt.map wtD)) (d2 : Dl H x2 (s.pn.map pnD)) (d3 : Dl H x3 (s.gn.map gnD))
    (q : ∀ Ha, Kp [] H0 Ha → Kp [p, D, l1, l2, l3] H Ha → StaAt K Ha (.ref p) s → Q (.ref p) Ha) :
    ∃ d u, H d = some u ∧ Mut (some u) ∧ ∀ od, ∃ d2 u2, (upd H d (.frz od u)) d2 = some u2 ∧ Mut (some u2) ∧ ∀ od2, ∃ d3 u3, (upd (upd H d (.frz od u)) d2 (.frz od2 u2)) d3 = some u3 ∧ Mut (some u3) ∧ ∀ od3, ∃ d4 u4, (upd (upd (upd H d (.frz od u)) d2 (.frz od2 u2)) d3 (.frz od3 u3)) d4 = some u4 ∧ Mut (some u4) ∧ ∀ od4, ∃ d5 u5, (upd (upd (upd (upd H d (.frz od u)) d2 (.frz od2 u2)) d3 (.frz od3 u3)) d4 (.frz od4 u4)) d5 = some u5 ∧ Mut (some u5) ∧ ∀ od5, Q (.ref p) (upd (upd (upd (upd (upd H d (.frz od u)) d2 (.frz od2 u2)) d3 (.frz od3 u3)) d4 (.frz od4 u4)) d5 (.frz od5 u5)) := by
  have hpD : p ≠ D := ne_of e0 eD fun z => nomatch z
  have hp1 : p ≠ l1 := ne_of e0 e1 fun z => nomatch z
  have hp2 : p ≠ l2 := ne_of e0 e2 fun z => nomatch z
  have hp3 : p ≠ l3 := ne_of e0 e3 fun z => nomatch z
  have hD1 : D ≠ l1 := ne_of eD e1 fun z => nomatch z
  have hD2 : D ≠ l2 := ne_of eD e2 fun z => nomatch z
  have hD3 : D ≠ l3 := ne_of eD e3 fun z => nomatch z
  refine ⟨l1, _, e1, True.intro, fun o1 => ⟨l2, _, (upd_ne (Ne.symm h12)).trans e2, True.intro, fun o2 => ⟨l3, _, (upd_ne (Ne.symm h23)).trans ((upd_ne (Ne.symm h13)).trans e3), True.intro, fun o3 => ⟨D, _, (upd_ne hD3).trans ((upd_ne hD2).trans ((upd_ne hD1).trans eD)), True.intro, fun o4 => ⟨p, _, (upd_ne hpD).trans ((upd_ne hp3).trans ((upd_ne hp2).trans ((upd_ne hp1).trans e0))), True.intro, fun o5 => ?_⟩⟩⟩⟩⟩
  have kk : Kp [p, D, l1, l2, l3] H (upd (upd (upd (upd (upd H l1 (.frz o1 (.lst x1))) l2 (.frz o2 (.lst x2))) l3 (.frz o3 (.lst x3))) D (.frz o4 (.dT kvs))) p (.frz o5 (.ins (He.ga K "State") dx (staF D (.ref l1) (.ref l2) (.ref l3))))) :=
    ((((Kp.refl.wr (by simp) e1).wr (by simp) ((upd_ne (Ne.symm h12)).trans e2)).wr (by simp) ((upd_ne (Ne.symm h23)).trans ((upd_ne (Ne.symm h13)).trans e3))).wr (by simp) ((upd_ne hD3).trans ((upd_ne hD2).trans ((upd_ne hD1).trans eD)))).wr (by simp) ((upd_ne hpD).trans ((upd_ne hp3).trans ((upd_ne hp2).trans ((upd_ne hp1).trans e0))))
  refine q _ (((((k.own n1).own n2).own n3).own nD).own n0) kk ⟨p, o5, dx, D, o4, kvs, .ref l1, .ref l2, .ref l3, rfl, upd_same, (upd_ne (Ne.symm hpD)).trans upd_same, ks.mono fun _ _ _ b => b.mono kk, .lst ((upd_ne (Ne.symm hp1)).trans ((upd_ne (Ne.symm hD1)).trans ((upd_ne h13).trans ((upd_ne h12).trans upd_same)))) (d1.mono kk), .lst ((upd_ne (Ne.symm hp2)).trans ((upd_ne (Ne.symm hD2)).trans ((upd_ne h23).trans upd_same))) (d2.mono kk), .lst ((upd_ne (Ne.symm hp3)).trans ((upd_ne (Ne.symm hD3)).trans upd_same)) (d3.mono kk)⟩
def spFs (K : PySem.W.Frag) : Sp := fun vs H Q _ => ∃ v prg a, vs = [v] ∧ PrgAt K H v prg ∧ prg.acts[0]? = some a ∧ actOf prg a.nam = some a ∧ ActOk2 a ∧ a.pars = [] ∧ ∀ Ha u, Kp [] H Ha → StaAt K Ha u ⟨[([], bornA a.nam a [])], [], [], []⟩ → Q u Ha
theorem ok_first_state (T : Tx K mg) : FnOk P w K mg base (L2N.CX P w) 12 (He.ga K "first_state") T.fd_first_state P_first_state (spFs K) := by
  refine T.D_first_state.ok sc_first_state (fun vs H Q E h => by obtain ⟨v, prg, a, rfl, _⟩ := h; rfl) fun cdv A outer s H vs Q E hr h => ⟨_, (pss_one (ps_ret (pe_fz (pe_fz (pe_fz (pe_fz (pe_fz (pe_make T.k_State (ok_State_init T) (hr.mono (by decide)) rfl T.g_State T.b_State_init .nil pass0 (pa_cons (pe_fz (pe_dispT (hu_of hr) (pe_tup pa_nil) (pe_callS (ok_born T) hr rfl T.g_born T.p_born T.b_born (fun σ => L2N.passAt (L2N.takes_of rfl rfl rfl rfl) σ) (pa_cons (pv 0) (pa_cons (pe_att T.c_Actor T.n_Actor_name (pe_ix ix_list (pe_att T.c_Program T.n_Program_actors (pv 0)) pe_int (fun _ _ => rfl))) (pa_cons (pe_tup pa_nil) pa_nil)))))) (pa_cons (pe_lst pa_nil) (pa_cons (pe_lst pa_nil) (pa_cons (pe_lst pa_nil) pa_nil)))))))))))), ?_⟩
  obtain ⟨v, prg, a, rfl, pa, a0, ha, ok, np, q⟩ := h
  obtain ⟨p, o, dx, ve, l, ol, xs, rfl, ep, el, as, de⟩ := id pa
  obtain ⟨x0, hx0⟩ : ∃ x, xs[0]? = some x := by
    cases z : xs[0]? with
    | some x => exact ⟨x, rfl⟩
    | none =>
      have l1 := as.len
      have l2 := (List.getElem?_eq_some_iff.mp a0).1
      have l3 := List.getElem?_eq_none_iff.mp z
      omega
  obtain ⟨b, hb, ab⟩ := as.at hx0
  rw [a0] at hb
  cases hb
  intro d nd
  have k1 : Kp [] H (upd H d (.dT [])) := Kp.refl.new nd
  refine ⟨Nat.zero_le _, fun t nt => ?_⟩
  have k2 := k1.new (o := .tup []) nt
  have ed : (upd (upd H d (.dT [])) t (.tup [])) d = some (.dT []) := (upd_ne (ne_of_none upd_same nt)).trans upd_same
  obtain ⟨p2, o2, dx2, vp, vs, vh, rfl, e2, d1, d2, d3⟩ := id (ab.mono k2)
  refine ⟨_, rfl, _, rfl, p, o, dx, _, _, rfl, k2.frz _ _ _ ep, rfl, l, xs, 0, .ref p2, rfl, rfl, .inl (.inr ⟨ol, k2.frz _ _ _ el⟩), atI_nat (j := 0) hx0, p2, o2, dx2, _, _, rfl, e2, rfl, Nat.zero_le _, fun t2 nt2 => ?_⟩
  have k3 := k2.new (o := .tup []) nt2
  refine ⟨_, a.nam, t2, prg, a, [], rfl, pa.mono k3, ha, ok, upd_same, by rw [np]; rfl, (fun i m => nomatch m), fun Ha u ka bu => ?_⟩
  have k4 := k3.trans ka
  have et : Ha t = some (.tup []) := ka.tup _ _ ((upd_ne (ne_of_none upd_same nt2)).trans upd_same)
  have ed2 : Ha d = some (.dT []) := ka.same _ _ ((upd_ne (ne_of_none ed nt2)).trans ed)
  refine ⟨ed2, [], t, rfl, et, ?_⟩
  refine ⟨d, _, upd_same, True.intro, fun od => ?_⟩
  have k5 : Kp [] H (upd (upd Ha d (.dT [([], u)])) d (.frz od (.dT [([], u)]))) := (k4.own nd).own nd
  have kk : Kp [d] Ha (upd (upd Ha d (.dT [([], u)])) d (.frz od (.dT [([], u)]))) := (Kp.refl.wr (by simp) ed2).wr (by simp) upd_same
  have bu2 := bu.mono kk
  have e5 : (upd (upd Ha d (.dT [([], u)])) d (.frz od (.dT [([], u)]))) d = some (.frz od (.dT [([], u)])) := upd_same
  revert k5 bu2 e5
  generalize (upd (upd Ha d (.dT [([], u)])) d (.frz od (.dT [([], u)]))) = Hb
  intro k5 bu2 e5
  refine ⟨Nat.zero_le _, fun l1 n1 => ⟨Nat.zero_le _, fun l2 n2 => ⟨Nat.zero_le _, fun l3 n3 x dxx nx ndx ne => ?_⟩⟩⟩
  have h1 : (upd (upd (upd Hb l1 (.lst [])) l2 (.lst [])) l3 (.lst [])) l1 = some (.lst []) := (upd_ne (ne_of_none ((upd_ne (ne_of_none upd_same n2)).trans upd_same) n3)).trans ((upd_ne (ne_of_none upd_same n2)).trans upd_same)
  have h2 : (upd (upd (upd Hb l1 (.lst [])) l2 (.lst [])) l3 (.lst [])) l2 = some (.lst []) := (upd_ne (ne_of_none upd_same n3)).trans upd_same
  have h3 : (upd (upd (upd Hb l1 (.lst [])) l2 (.lst [])) l3 (.lst [])) l3 = some (.lst []) := upd_same
  have kb : Kp [] Hb (upd (upd (upd Hb l1 (.lst [])) l2 (.lst [])) l3 (.lst [])) := ((Kp.refl.new n1).new n2).new n3
  revert h1 h2 h3 kb nx ndx
  generalize (upd (upd (upd Hb l1 (.lst [])) l2 (.lst [])) l3 (.lst [])) = Hc
  intro nx ndx h1 h2 h3 kb
  have k6 := k5.trans kb
  have nxH : H x = none := k6.dom _ nx
  have nxb : Hb x = none := kb.dom _ nx
  have k7 : Kp [] H (upd (upd Hc dxx (.own x)) x (.ins (He.ga K "State") dxx [])) := (k6.new ndx).own nxH
  have k7b : Kp [] Hb (upd (upd Hc dxx (.own x)) x (.ins (He.ga K "State") dxx [])) := (kb.new ndx).own nxb
  have lk : ∀ {l : Addr}, Hc l = some (.lst []) → ∀ Ha, Kp [x] (upd (upd Hc dxx (.own x)) x (.ins (He.ga K "State") dxx [])) Ha → SqL K Ha l [] := fun {l} e Ha ka => SqL.of (ka.kp _ _ (fun m => by rw [List.mem_singleton.mp m, nx] at e; cases e) (by rw [upd_ne (ne_of_none e nx), upd_ne (ne_of_none e ndx)]; exact e))
  refine ⟨x, dxx, d, od, [([], u)], l1, l2, l3, [], [], [], rfl, upd_same, k7b.frz _ _ _ e5, by simp, by simp, fun Ha ka => ⟨lk h1 Ha ka, lk h2 Ha ka, lk h3 Ha ka⟩, fun He D m1 m2 m3 ke g0 gD g1 g2 g3 nD z1 z2 z3 na nb => ⟨rfl, ?_⟩⟩
  have k8 : Kp [] H He := k7.sub ke fun a m => .inr (by rw [List.mem_singleton.mp m]; exact nxH)
  have k8b : Kp [] Hb He := k7b.sub ke fun a m => .inr (by rw [List.mem_singleton.mp m]; exact nxb)
  exact lock5 (L := []) k8 g0 gD g1 g2 g3 nxH (k7.dom _ nD) (k7.dom _ z1) (k7.dom _ z2) (k7.dom _ z3) nb.1 nb.2.1 nb.2.2 (s := ⟨[([], bornA a.nam a [])], [], [], []⟩) ⟨rfl, bu2.mono k8b, trivial⟩ .nil .nil .nil fun Hz kz _ sz => q Hz _ kz sz
end
end Rk
/-! retroact.machine: what is possible. -/
namespace Rk
open PySem PySem.Spec PyProof.Rows L2
theorem kit_ii {K : PySem.W.Frag} : PySem.W.kitOne K (.type "int") (.type "int") = some true := by kernel_rfl
theorem kit_ib {K : PySem.W.Frag} : PySem.W.kitOne K (.type "int") (.type "bool") = some false := by kernel_rfl
section
variable {K : PySem.W.Frag} {mg : Str → Option Value} {P : Program} {w : World} {base : Heap}
def spIv : Sp := fun vs H Q _ => ∃ i, vs = [.int i] ∧ Q (.bl (decide (Bv i))) H
theorem ok_is_value (T : Tx K mg) : FnOk P w K mg base (L2N.CX P w) 1 (He.ga K "is_value") T.fd_is_value P_is_value spIv := by
  obtain ⟨t1, h1⟩ := T.i_LEAST
  obtain ⟨t2, h2⟩ := T.i_GREATEST
  refine T.D_is_value.ok sc_is_value (fun vs H Q E h => by obtain ⟨i, rfl, _⟩ := h; rfl) fun cdv A outer s H vs Q E hr h => ⟨_, (pss_one (ps_ret (pe_and (pe_callB call_isi (by rfl) T.f_isinstance (by decide +kernel) (pa_cons (pv 0) (pa_cons (pe_bltn (v := .ty "int") rfl T.f_int (by decide +kernel) rfl) pa_nil))) (pe_and (pe_not (pe_callB call_isi (by rfl) T.f_isinstance (by decide +kernel) (pa_cons (pv 0) (pa_cons (pe_bltn (v := .ty "bool") rfl T.f_bool (by decide +kernel) rfl) pa_nil)))) (pe_one (pe_chain op_le op_le (pe_glob (v := .int (-1000000000)) rfl h1 ⟨t1, rfl⟩) (pv 0) (pe_glob (v := .int 1000000000) rfl h2 ⟨t2, rfl⟩))))))), ?_⟩
  obtain ⟨i, rfl, q⟩ := h
  refine ⟨_, rfl, .int i, .ty "int", _, .type "int", true, rfl, .ty "int", .base (.int i), kit_ii, true, rfl, iT rfl ?_⟩
  refine ⟨_, rfl, .int i, .ty "bool", _, .type "bool", false, rfl, .ty "bool", .base (.int i), kit_ib, false, rfl, true, rfl, iT rfl ?_⟩
  refine ⟨_, rfl, _, _, rfl, rfl, _, rfl, ?_⟩
  by_cases b1 : -1000000000 ≤ i
  · refine iT (decide_eq_true b1) ⟨_, _, rfl, rfl, ?_⟩
    have e : decide (Bv i) = decide (i ≤ 1000000000) := by
      by_cases b2 : i ≤ 1000000000
      · rw [decide_eq_true b2, decide_eq_true (show Bv i from ⟨b1, b2⟩)]
      · rw [decide_eq_false b2, decide_eq_false fun z : Bv i => b2 z.2]
    rw [e] at q
    exact q
  · refine iF (decide_eq_false b1) ?_
    rw [decide_eq_false (fun z : Bv i => b1 z.1)] at q
    exact q
def spIi (K : PySem.W.Frag) : Sp := fun vs H Q _ => ∃ v s p pa m al as prg st, vs = [v, s, .ref pa, .str m, .ref al] ∧ PrgAt K H v prg ∧ StaAt K H s st ∧ H pa = some (.tup (p.map V.int)) ∧ H al = some (.tup (as.map V.int)) ∧ as.length ≤ 10 ∧ (∀ q b, (q, b) ∈ st.bgs → ∃ a, actOf prg b.kind = some a) ∧ ∀ Ha, Kp [] H Ha → Q (.bl (isIn prg st p m as)) Ha
theorem ok_is_input (T : Tx K mg) : FnOk P w K mg base (L2N.CX P w) 3 (He.ga K "_is_input") T.fd_is_input P_is_input (spIi K) := by
  refine T.D_is_input.ok sc_is_input (fun vs H Q E h => by obtain ⟨v, s, p, pa, m, al, as, prg, st, rfl, _⟩ := h; rfl) fun cdv A outer s H vs Q E hr h => ⟨_, (pss_cons (ps_if (PW.pt (pw_or (pt_cmp (pc_dnotin (hu_of hr) (pv 2) (pe_att T.c_State T.n_State_beings (pv 1)))) (pw_or1 (pt_cmpR op_ne (pe_att T.c_Being T.n_Being_mode (pe_dget (hu_of hr) (pe_att T.c_State T.n_State_beings (pv 1)) (pv 2) (fun _ _ => rfl))) pe_str (nomark _)))))
    (pss_one (ps_ret pe_bl))
    pss_nil)
    (pss_cons (ps_if (pt_cmpR op_isN (pe_callS (ok_handler_of T) (hr.mono (by decide)) rfl T.g__handler_of T.p_handler_of T.b_handler_of (fun σ => L2N.passAt (L2N.takes_of rfl rfl rfl rfl) σ) (pa_cons (pv 0) (pa_cons (pe_att T.c_Being T.n_Being_kind (pe_dget (hu_of hr) (pe_att T.c_State T.n_State_beings (pv 1)) (pv 2) (fun _ _ => rfl))) (pa_cons (pv 3) (pa_cons (pe_callB call_len_seq (by rfl) T.f_len (by decide +kernel) (pa_cons (pv 4) pa_nil)) pa_nil))))) pe_non (nomark _))
    (pss_one (ps_ret pe_bl))
    pss_nil)
    (pss_one (ps_ret (pe_callB (cr_all rfl) (by rfl) T.f_all (by decide +kernel) (pa_cons (pe_lc (own := [("argument", 5)]) rfl sc_is_input.nd (pi_tup (pv 4)) (blkOk_by (own := [("argument", 5)]) (N := N_is_input) (sc := defScope s_is_input) (by decide +kernel)) (fun _ _ _ _ _ => (pg_name (i := 5) sc_is_input.nd rfl (.inl rfl))) (fun _ _ _ _ _ => pts_nil) (fun _ _ _ _ _ => (pe_call (ok_is_value T) (hr.mono (by decide)) rfl T.g_is_value T.p_is_value T.b_is_value .nil pass0 (pa_cons (pv 5) pa_nil)))) pa_nil)))))), ?_⟩
  obtain ⟨v, s, p, pa, m, al, as, prg, st, rfl, hp, hs, epa, eal, few, kinds, q⟩ := h
  obtain ⟨ps, os, dx, B, ob, kvs, vw, vp, vg, rfl, es, eB, ks, d1, d2, d3⟩ := hs
  have epk : H pa = some (.tup ((pK p).map kV)) := by rw [pK_kV]; exact epa
  have get : ∀ o, valV kvs (pK p) = o → DGet H B (.ref pa) o := fun o e => by
    rw [← e]
    exact .inr ⟨kvs, pK p, pa, .inr ⟨ob, eB⟩, rfl, epk, rfl⟩
  refine ⟨_, rfl, _, rfl, ps, os, dx, _, _, rfl, es, rfl, B, valV kvs (pK p), rfl, get _ rfl, ?_⟩
  unfold isIn at q
  cases eb : getB st.bgs p with
  | none =>
    rw [eb] at q
    rw [ks.none eb]
    exact ⟨_, rfl, iT rfl (iT rfl (q H .refl))⟩
  | some b =>
    rw [eb] at q
    change ∀ Ha, Kp [] H Ha → Q (.bl (decide (b.mode = "on") && (handler prg b m as.length).isSome && as.all fun i => decide (Bv i))) Ha at q
    obtain ⟨bv, ev, bat⟩ := ks.some eb
    rw [ev]
    obtain ⟨bp, bo, bdx, D, od, rfl, ebp, eD⟩ := bat
    refine ⟨_, rfl, iF rfl ⟨_, rfl, ps, os, dx, _, _, rfl, es, rfl, _, rfl, B, .ref bp, rfl, get _ ev, bp, bo, bdx, _, _, rfl, ebp, rfl, rfl, ?_⟩⟩
    rw [dS]
    by_cases on : b.mode = "on"
    · refine ⟨_, rfl, iF (by rw [decide_eq_true on]; rfl) ?_⟩
      rw [decide_eq_true on, Bool.true_and] at q
      obtain ⟨a, ha⟩ := kinds _ _ (getB_mem eb)
      unfold handler at q
      rw [ha, Option.bind_some] at q
      refine ⟨_, rfl, _, rfl, ps, os, dx, _, _, rfl, es, rfl, _, rfl, B, .ref bp, rfl, get _ ev, bp, bo, bdx, _, _, rfl, ebp, rfl, _, rfl, _, rfl, al, _, rfl, .inr (SqT.of eal), v, b.kind, m, (as.map V.int).length, prg, a, rfl, hp, ha, fun u h eh dh => ?_, fun eh => ?_⟩
      · rw [List.length_map] at eh
        rw [eh, Option.isSome_some, Bool.true_and] at q
        obtain ⟨up, uxs, rfl, _, _⟩ := Di.inv_tup (show Di H u (.tuple [.str h.msg, .list (h.pars.map .str), .list (bdD h.body)]) from dh)
        refine ⟨rfl, _, rfl, iF rfl ?_⟩
        refine ⟨_, rfl, al, rfl, ⟨_, SqT.of eal⟩, fun L nL => lc_tup (xs := as.map V.int) (fun i Hb => Kp [] H Hb ∧ Hb L = some (.lst ((as.take i).map fun j => V.bl (decide (Bv j))))) ⟨Kp.refl.new nL, upd_same⟩ (fun i Hb _ p => SqT.of (p.1.tup _ _ eal)) (fun i x Hb hx ⟨kb, eL⟩ => ?_) fun Hb ⟨kb, eL⟩ => ?_⟩
        · rw [List.getElem?_map] at hx
          obtain ⟨j, hj, rfl⟩ : ∃ j, as[i]? = some j ∧ V.int j = x := by
            cases z : as[i]? with
            | none => rw [z] at hx; cases hx
            | some e => rw [z] at hx; exact ⟨e, rfl, Option.some.inj hx⟩
          refine ⟨rfl, iT (B := Kp [] H Hb ∧ Hb L = some (.lst ((as.take (i + 1)).map fun j => V.bl (decide (Bv j))))) rfl ⟨_, rfl, j, rfl, _, eL, ?_, kb.own nL, ?_⟩⟩
          · rw [List.length_map, List.length_take]; exact small' (by omega)
          · rw [upd_same, List.take_add_one, hj, List.map_append]; rfl
        · rw [List.length_map, List.take_length] at eL
          have e1 : (as.map fun j => V.bl (decide (Bv j))) = (as.map fun j => decide (Bv j)).map V.bl := by rw [List.map_map]; rfl
          rw [e1] at eL
          refine ⟨L, _, rfl, SqL.of eL, ?_⟩
          have e2 : (as.map fun j => decide (Bv j)).all id = as.all fun i => decide (Bv i) := by rw [List.all_map]; rfl
          rw [e2]
          exact q Hb kb
      · rw [List.length_map] at eh
        rw [eh, Option.isSome_none, Bool.false_and] at q
        exact ⟨rfl, _, rfl, iT rfl (q H .refl)⟩
    · refine ⟨_, rfl, iT (by rw [decide_eq_false on]; rfl) ?_⟩
      rw [decide_eq_false on] at q
      exact q H .refl
end
end Rk
/-! retroact.machine: is_possible, _receiver. -/
namespace Rk
open PySem PySem.Spec PyProof.Rows L2
theorem Di.inv_ints {H : Hp} {v : V} {p : List Int} (h : Di H v (inD p)) : ∃ a, v = .ref a ∧ H a = some (.tup (p.map V.int)) := by
  obtain ⟨a, xs, rfl, e, l⟩ := h.inv_tup
  rw [l.inv_ints] at e
  exact ⟨a, rfl, e⟩
def EvtOk : Evt → Prop
  | .input _ _ as => as.length ≤ 10
  | _ => True
def Kinds (prg : Prg) (st : Sta) : Prop := ∀ q b, (q, b) ∈ st.bgs → ∃ a, actOf prg b.kind = some a
section
variable {K : PySem.W.Frag} {mg : Str → Option Value} {P : Program} {w : World} {base : Heap}
def spIp (K : PySem.W.Frag) : Sp := fun vs H Q _ => ∃ v s e prg st ev, vs = [v, s, e] ∧ PrgAt K H v prg ∧ StaAt K H s st ∧ Di H e (evD ev) ∧ EvtOk ev ∧ Kinds prg st ∧ ∀ Ha, Kp [] H Ha → Q (.bl (isPos prg st ev)) Ha
theorem ok_is_possible (T : Tx K mg) : FnOk P w K mg base (L2N.CX P w) 4 (He.ga K "is_possible") T.fd_is_possible P_is_possible (spIp K) := by
  refine T.D_is_possible.ok sc_is_possible (fun vs H Q E h => by obtain ⟨v, s, e, prg, st, ev, rfl, _⟩ := h; rfl) fun cdv A outer s H vs Q E hr h => ⟨_, (pss_cons (ps_if (pt_cmpR op_eq (pe_ti (pv 2)) pe_str (nomark _))
    (pss_one (ps_ret (pe_callS (ok_is_input T) (hr.mono (by decide)) rfl T.g__is_input T.p_is_input T.b_is_input (fun σ => L2N.passAt (L2N.takes_of rfl rfl rfl rfl) σ) (pa_cons (pv 0) (pa_cons (pv 1) (pa_cons (pe_ti (pv 2)) (pa_cons (pe_ti (pv 2)) (pa_cons (pe_ti (pv 2)) pa_nil))))))))
    pss_nil)
    (pss_cons (ps_if (pt_cmpR op_eq (pe_ti (pv 2)) pe_str (nomark _))
    (pss_one (ps_ret (pe_chain op_le op_lt pe_int (pe_ti (pv 2)) (pe_callB call_len_seq (by rfl) T.f_len (by decide +kernel) (pa_cons (pe_att T.c_State T.n_State_waiting (pv 1)) pa_nil)))))
    pss_nil)
    (pss_one (ps_ret (pe_and (pe_chain op_le op_lt pe_int (pe_ti (pv 2)) (pe_callB call_len_seq (by rfl) T.f_len (by decide +kernel) (pa_cons (pe_att T.c_State T.n_State_pending (pv 1)) pa_nil))) (pe_one (pe_callS (ok_is_value T) (hr.mono (by decide)) rfl T.g_is_value T.p_is_value T.b_is_value (fun σ => L2N.passAt (L2N.takes_of rfl rfl rfl rfl) σ) (pa_cons (pe_ti (pv 2)) pa_nil)))))))), ?_⟩
  obtain ⟨v, s, e, prg, st, ev, rfl, hp, hs, de, eo, kinds, q⟩ := h
  obtain ⟨ps, os, dx, B, ob, kvs, vw, vp, vg, rfl, es, eB, ks, d1, d2, d3⟩ := id hs
  obtain ⟨lw, ow, xw, rfl, ew, dlw⟩ := d1.inv_lst
  obtain ⟨ln, on, xn, rfl, en, dln⟩ := d2.inv_lst
  have hlw : xw.length = st.wt.length := by rw [dlw.length, List.length_map]
  have hln : xn.length = st.pn.length := by rw [dln.length, List.length_map]
  cases ev with
  | input p m as =>
    obtain ⟨pe, v0, v1, v2, v3, rfl, epe, e0, e1, e2, e3⟩ := Di.inv4 (show Di H e (.tuple [.str "input", inD p, .str m, inD as]) from de)
    cases e0.inv_str
    cases e2.inv_str
    obtain ⟨a1, rfl, h1⟩ := e1.inv_ints
    obtain ⟨a3, rfl, h3⟩ := e3.inv_ints
    exact ⟨_, rfl, pe, _, _, rfl, epe, rfl, rfl, _, rfl, iT rfl ⟨_, rfl, _, rfl, _, rfl, pe, _, _, rfl, epe, rfl, _, rfl, pe, _, _, rfl, epe, rfl, _, rfl, pe, _, _, rfl, epe, rfl, v, .ref ps, p, a1, m, a3, as, prg, st, rfl, hp, hs, h1, h3, eo, kinds, q⟩⟩
  | deliver i =>
    obtain ⟨pe, v0, v1, rfl, epe, e0, e1⟩ := Di.inv2 (show Di H e (.tuple [.str "deliver", .int i]) from de)
    cases e0.inv_str
    cases e1.inv_int
    refine ⟨_, rfl, pe, _, _, rfl, epe, rfl, rfl, _, rfl, iF rfl ⟨_, rfl, pe, _, _, rfl, epe, rfl, rfl, _, rfl, iT rfl ⟨_, rfl, pe, _, _, rfl, epe, rfl, _, _, rfl, rfl, _, rfl, ?_⟩⟩⟩
    by_cases b1 : 0 ≤ i
    · refine iT (decide_eq_true b1) ⟨_, rfl, ps, os, dx, _, _, rfl, es, rfl, lw, xw, rfl, .inl (.inl (.inr ⟨ow, ew⟩)), _, _, rfl, rfl, ?_⟩
      have e : isPos prg st (.deliver i) = decide (i < (xw.length : Int)) := by
        show (decide (0 ≤ i) && decide (i < (st.wt.length : Int))) = _
        rw [decide_eq_true b1, hlw]; rfl
      show Q (.bl (decide (i < (xw.length : Int)))) H
      rw [← e]
      exact q H .refl
    · refine iF (decide_eq_false b1) ?_
      have e : isPos prg st (.deliver i) = false := by
        show (decide (0 ≤ i) && decide (i < (st.wt.length : Int))) = _
        rw [decide_eq_false b1]; rfl
      rw [← e]
      exact q H .refl
  | answer i j =>
    obtain ⟨pe, v0, v1, v2, rfl, epe, e0, e1, e2⟩ := Di.inv3 (show Di H e (.tuple [.str "answer", .int i, .int j]) from de)
    cases e0.inv_str
    cases e1.inv_int
    cases e2.inv_int
    refine ⟨_, rfl, pe, _, _, rfl, epe, rfl, rfl, _, rfl, iF rfl ⟨_, rfl, pe, _, _, rfl, epe, rfl, rfl, _, rfl, iF rfl ⟨_, rfl, pe, _, _, rfl, epe, rfl, _, _, rfl, rfl, _, rfl, ?_⟩⟩⟩
    have e : isPos prg st (.answer i j) = (decide (0 ≤ i) && decide (i < (st.pn.length : Int)) && decide (Bv j)) := rfl
    by_cases b1 : 0 ≤ i
    · refine iT (decide_eq_true b1) ⟨_, rfl, ps, os, dx, _, _, rfl, es, rfl, ln, xn, rfl, .inl (.inl (.inr ⟨on, en⟩)), _, _, rfl, rfl, _, rfl, ?_⟩
      rw [hln]
      by_cases b2 : i < (st.pn.length : Int)
      · refine iT (decide_eq_true b2) ⟨_, rfl, pe, _, _, rfl, epe, rfl, j, rfl, ?_⟩
        rw [decide_eq_true b1, decide_eq_true b2] at e
        rw [show decide (Bv j) = isPos prg st (.answer i j) from by rw [e]; rfl]
        exact q H .refl
      · refine iF (decide_eq_false b2) ?_
        rw [decide_eq_true b1, decide_eq_false b2] at e
        rw [show false = isPos prg st (.answer i j) from by rw [e]; rfl]
        exact q H .refl
    · refine iF (decide_eq_false b1) ⟨_, rfl, iF rfl ?_⟩
      rw [decide_eq_false b1] at e
      rw [show false = isPos prg st (.answer i j) from by rw [e]; rfl]
      exact q H .refl
def spRv (K : PySem.W.Frag) : Sp := fun vs H Q _ => ∃ pa p t tv, vs = [.ref pa, t] ∧ H pa = some (.tup (p.map V.int)) ∧ Di H t (tvD tv) ∧ p.length ≤ 50000 ∧ (∀ r Ha a, recv p tv = some r → Kp [] H Ha → Ha a = some (.tup (r.map V.int)) → Q (.ref a) Ha) ∧ (recv p tv = none → Q .non H)
theorem cut_last (xs : List V) : cutV xs none (some (-1)) = xs.dropLast := by
  unfold cutV
  have e0 : HT.sIx xs.length 0 none = 0 := rfl
  have e1 : HT.sIx xs.length xs.length (some (-1)) = xs.length - 1 := by
    show (if (-1 : Int) < 0 then ((-1 : Int) + (xs.length : Int)).toNat else min (-1 : Int).toNat xs.length) = _
    rw [if_pos (by decide)]
    omega
  rw [e0, e1, List.drop_zero, Nat.sub_zero, List.dropLast_eq_take]
theorem ok_receiver (T : Tx K mg) : FnOk P w K mg base (L2N.CX P w) 1 (He.ga K "_receiver") T.fd_receiver P_receiver (spRv K) := by
  refine T.D_receiver.ok sc_receiver (fun vs H Q E h => by obtain ⟨pa, p, t, tv, rfl, _⟩ := h; rfl) fun cdv A outer s H vs Q E hr h => ⟨_, (pss_cons (ps_if (pt_cmpR op_eq (pe_ti (pv 1)) pe_str (nomark _))
    (pss_one (ps_ret (pv 0)))
    pss_nil)
    (pss_cons (ps_if (pt_cmpR op_eq (pe_ti (pv 1)) pe_str (nomark _))
    (pss_one (ps_ret (pe_op op_catA (pv 0) (pe_tup (pa_cons (pe_ti (pv 1)) pa_nil)))))
    pss_nil)
    (pss_cons (ps_if (pt_cmpR op_eq (pe_callB call_len_seq (by rfl) T.f_len (by decide +kernel) (pa_cons (pv 0) pa_nil)) pe_int (nomark _))
    (pss_one (ps_ret pe_non))
    pss_nil)
    (pss_one (ps_ret (pe_slice sl_tupA (pv 0) po_none (po_some (pe_un un_neg pe_int)))))))), ?_⟩
  obtain ⟨pa, p, t, tv, rfl, ep, dt, few, q1, q2⟩ := h
  cases tv with
  | self =>
    obtain ⟨pt, v0, rfl, ept, e0⟩ := Di.inv1 (show Di H t (.tuple [.str "self"]) from dt)
    cases e0.inv_str
    exact ⟨_, rfl, pt, _, _, rfl, ept, rfl, rfl, _, rfl, iT rfl ⟨_, rfl, q1 p H pa rfl .refl ep⟩⟩
  | child i =>
    obtain ⟨pt, v0, v1, rfl, ept, e0, e1⟩ := Di.inv2 (show Di H t (.tuple [.str "child", .int i]) from dt)
    cases e0.inv_str
    cases e1.inv_int
    refine ⟨_, rfl, pt, _, _, rfl, ept, rfl, rfl, _, rfl, iF rfl ⟨_, rfl, pt, _, _, rfl, ept, rfl, rfl, _, rfl, iT rfl ⟨_, rfl, _, rfl, pt, _, _, rfl, ept, rfl, by show 1 ≤ sizeLine; decide, fun t2 nt2 => ?_⟩⟩⟩
    have k1 : Kp [] H (upd H t2 (.tup [.int i])) := Kp.refl.new nt2
    refine ⟨pa, t2, _, _, rfl, rfl, SqT.of (k1.tup _ _ ep), SqT.of upd_same, by rw [List.length_map]; show p.length + 1 ≤ sizeLine; exact small (by omega), fun z => ?_, fun _ z => (nomatch z), fun _ _ t3 nt3 => ?_⟩
    · have z2 : p = [] := List.map_eq_nil_iff.mp z
      exact q1 [i] _ t2 (by rw [z2]; rfl) k1 upd_same
    · exact q1 (p ++ [i]) _ t3 rfl (k1.new nt3) (by rw [upd_same, List.map_append]; rfl)
  | par =>
    obtain ⟨pt, v0, rfl, ept, e0⟩ := Di.inv1 (show Di H t (.tuple [.str "parent"]) from dt)
    cases e0.inv_str
    refine ⟨_, rfl, pt, _, _, rfl, ept, rfl, rfl, _, rfl, iF rfl ⟨_, rfl, pt, _, _, rfl, ept, rfl, rfl, _, rfl, iF rfl ⟨_, rfl, pa, _, rfl, .inr (SqT.of ep), rfl, _, rfl, ?_⟩⟩⟩
    rw [dI, List.length_map]
    by_cases z : p = []
    · refine iT (decide_eq_true (by rw [z]; rfl)) (q2 (if_pos z))
    · have lp : p.length ≠ 0 := fun y => z (List.length_eq_zero_iff.mp y)
      refine iF (decide_eq_false (by omega)) ⟨_, rfl, _, rfl, _, rfl, pa, _, rfl, SqT.of ep, fun y => ?_, fun _ t2 nt2 => ?_⟩
      · exfalso
        have := y.2
        rw [List.length_map] at this
        have e1 : HT.sIx p.length p.length (some (-1)) = p.length - 1 := by
          show (if (-1 : Int) < 0 then ((-1 : Int) + (p.length : Int)).toNat else min (-1 : Int).toNat p.length) = _
          rw [if_pos (by decide)]
          omega
        rw [e1] at this
        omega
      · exact q1 p.dropLast _ t2 (if_neg z) (Kp.refl.new nt2) (by rw [upd_same, cut_last, List.map_dropLast])
end
end Rk
/-! retroact.machine: _carry_out. -/
namespace Rk
open PySem PySem.Spec PyProof.Rows L2
section
variable {K : PySem.W.Frag} {mg : Str → Option Value} {P : Program} {w : World} {base : Heap}
abbrev RK (K : PySem.W.Frag) (H : Hp) (p : Pth) (r : Addr) : Pth → V → Bg → Prop := fun q u c => (q = p ∧ u = .ref r) ∨ (q ≠ p ∧ BgAt K H u c)
/-- a state at work, the being at p apart -/
structure Wk (K : PySem.W.Frag) (H : Hp) (p : Pth) (st B W N G r : Addr) (b : Bg) (s : Sta) : Prop where
  sta : StaOp K H (RK K H p r) st B W N G s
  bng : ∃ dx D od, H r = some (.ins (He.ga K "Being") dx (bgF b D)) ∧ H D = some (.frz od (.dK (dN b.sts)))
theorem RK.mono {L : List Addr} {H Ha : Hp} {p : Pth} {r : Addr} (k : Kp L H Ha) : ∀ q u c, RK K H p r q u c → RK K Ha p r q u c := fun _ _ _ h => h.elim .inl fun ⟨a, b⟩ => .inr ⟨a, b.mono k⟩
theorem StaOp.keep {H Ha : Hp} {R R' : Pth → V → Bg → Prop} {st B W N G : Addr} {s : Sta} (h : StaOp K H R st B W N G s) (k : Kp [] H Ha) (hR : ∀ p v b, R p v b → R' p v b) : StaOp K Ha R' st B W N G s := by
  obtain ⟨⟨dx, e⟩, ⟨kvs, e2, ks⟩, ⟨x1, e3, d1⟩, ⟨x2, e4, d2⟩, ⟨x3, e5, d3⟩⟩ := h
  exact ⟨⟨dx, k.same _ _ e⟩, ⟨kvs, k.same _ _ e2, ks.mono hR⟩, ⟨x1, k.same _ _ e3, d1.mono k⟩, ⟨x2, k.same _ _ e4, d2.mono k⟩, ⟨x3, k.same _ _ e5, d3.mono k⟩⟩
theorem Wk.keep {H Ha : Hp} {p : Pth} {st B W N G r : Addr} {b : Bg} {s : Sta} (h : Wk K H p st B W N G r b s) (k : Kp [] H Ha) : Wk K Ha p st B W N G r b s :=
  ⟨h.sta.keep k (RK.mono k), let ⟨dx, D, od, e, e2⟩ := h.bng; ⟨dx, D, od, k.same _ _ e, k.frz _ _ _ e2⟩⟩
structure Dst (st W N G r : Addr) : Prop where
  sr : st ≠ r
  wn : W ≠ N
  wg : W ≠ G
  ng : N ≠ G
abbrev Lw (B W N G r : Addr) : List Addr := [B, W, N, G, r]
section
variable {H : Hp} {p : Pth} {st B W N G r : Addr} {b : Bg} {s : Sta}
theorem Wk.addW (h : Wk K H p st B W N G r b s) (d : Dst st W N G r) {xs : List V} (e : H W = some (.lst xs)) {v : V} {x : Wt} (dv : Di H v (wtD x)) : Kp (Lw B W N G r) H (upd H W (.lst (xs ++ [v]))) ∧ Wk K (upd H W (.lst (xs ++ [v]))) p st B W N G r b { s with wt := s.wt ++ [x] } := by
  have k : Kp (Lw B W N G r) H (upd H W (.lst (xs ++ [v]))) := Kp.refl.wr (by simp) e
  obtain ⟨⟨⟨dx, e1⟩, ⟨kvs, e2, ks⟩, ⟨x1, e3, d1⟩, ⟨x2, e4, d2⟩, ⟨x3, e5, d3⟩⟩, ⟨dx2, D, od, e6, e7⟩⟩ := h
  rw [e] at e3
  cases e3
  refine ⟨k, ⟨⟨dx, (upd_ne (ne_of e1 e fun z => nomatch z)).trans e1⟩, ⟨kvs, (upd_ne (ne_of e2 e fun z => nomatch z)).trans e2, ks.mono (RK.mono k)⟩, ⟨_, upd_same, ?_⟩, ⟨x2, (upd_ne (Ne.symm d.wn)).trans e4, d2.mono k⟩, ⟨x3, (upd_ne (Ne.symm d.wg)).trans e5, d3.mono k⟩⟩, ⟨dx2, D, od, (upd_ne (ne_of e6 e fun z => nomatch z)).trans e6, k.frz _ _ _ e7⟩⟩
  rw [List.map_append]
  exact (d1.mono k).append (.cons (dv.mono k) .nil)
theorem Wk.addN (h : Wk K H p st B W N G r b s) (d : Dst st W N G r) {xs : List V} (e : H N = some (.lst xs)) {v : V} {x : Pn} (dv : Di H v (pnD x)) : Kp (Lw B W N G r) H (upd H N (.lst (xs ++ [v]))) ∧ Wk K (upd H N (.lst (xs ++ [v]))) p st B W N G r b { s with pn := s.pn ++ [x] } := by
  have k : Kp (Lw B W N G r) H (upd H N (.lst (xs ++ [v]))) := Kp.refl.wr (by simp) e
  obtain ⟨⟨⟨dx, e1⟩, ⟨kvs, e2, ks⟩, ⟨x1, e3, d1⟩, ⟨x2, e4, d2⟩, ⟨x3, e5, d3⟩⟩, ⟨dx2, D, od, e6, e7⟩⟩ := h
  rw [e] at e4
  cases e4
  refine ⟨k, ⟨⟨dx, (upd_ne (ne_of e1 e fun z => nomatch z)).trans e1⟩, ⟨kvs, (upd_ne (ne_of e2 e fun z => nomatch z)).trans e2, ks.mono (RK.mono k)⟩, ⟨x1, (upd_ne d.wn).trans e3, d1.mono k⟩, ⟨_, upd_same, ?_⟩, ⟨x3, (upd_ne (Ne.symm d.ng)).trans e5, d3.mono k⟩⟩, ⟨dx2, D, od, (upd_ne (ne_of e6 e fun z => nomatch z)).trans e6, k.frz _ _ _ e7⟩⟩
  rw [List.map_append]
  exact (d2.mono k).append (.cons (dv.mono k) .nil)
theorem Wk.addG (h : Wk K H p st B W N G r b s) (d : Dst st W N G r) {xs : List V} (e : H G = some (.lst xs)) {v : V} {x : Gn} (dv : Di H v (gnD x)) : Kp (Lw B W N G r) H (upd H G (.lst (xs ++ [v]))) ∧ Wk K (upd H G (.lst (xs ++ [v]))) p st B W N G r b { s with gn := s.gn ++ [x] } := by
  have k : Kp (Lw B W N G r) H (upd H G (.lst (xs ++ [v]))) := Kp.refl.wr (by simp) e
  obtain ⟨⟨⟨dx, e1⟩, ⟨kvs, e2, ks⟩, ⟨x1, e3, d1⟩, ⟨x2, e4, d2⟩, ⟨x3, e5, d3⟩⟩, ⟨dx2, D, od, e6, e7⟩⟩ := h
  rw [e] at e5
  cases e5
  refine ⟨k, ⟨⟨dx, (upd_ne (ne_of e1 e fun z => nomatch z)).trans e1⟩, ⟨kvs, (upd_ne (ne_of e2 e fun z => nomatch z)).trans e2, ks.mono (RK.mono k)⟩, ⟨x1, (upd_ne d.wg).trans e3, d1.mono k⟩, ⟨x2, (upd_ne d.ng).trans e4, d2.mono k⟩, ⟨_, upd_same, ?_⟩⟩, ⟨dx2, D, od, (upd_ne (ne_of e6 e fun z => nomatch z)).trans e6, k.frz _ _ _ e7⟩⟩
  rw [List.map_append]
  exact (d3.mono k).append (.cons (dv.mono k) .nil)
theorem Wk.setB (h : Wk K H p st B W N G r b s) (d : Dst st W N G r) {dx D : Addr} (e : H r = some (.ins (He.ga K "Being") dx (bgF b D))) (b2 : Bg) (hs : b2.sts = b.sts) : Kp (Lw B W N G r) H (upd H r (.ins (He.ga K "Being") dx (bgF b2 D))) ∧ Wk K (upd H r (.ins (He.ga K "Being") dx (bgF b2 D))) p st B W N G r b2 s := by
  have k : Kp (Lw B W N G r) H (upd H r (.ins (He.ga K "Being") dx (bgF b2 D))) := Kp.refl.wr (by simp) e
  obtain ⟨⟨⟨dxs, e1⟩, ⟨kvs, e2, ks⟩, ⟨x1, e3, d1⟩, ⟨x2, e4, d2⟩, ⟨x3, e5, d3⟩⟩, ⟨dx2, D2, od, e6, e7⟩⟩ := h
  rw [e] at e6
  cases e6
  exact ⟨k, ⟨⟨dxs, (upd_ne d.sr).trans e1⟩, ⟨kvs, (upd_ne (ne_of e2 e fun z => nomatch z)).trans e2, ks.mono (RK.mono k)⟩, ⟨x1, (upd_ne (ne_of e3 e fun z => nomatch z)).trans e3, d1.mono k⟩, ⟨x2, (upd_ne (ne_of e4 e fun z => nomatch z)).trans e4, d2.mono k⟩, ⟨x3, (upd_ne (ne_of e5 e fun z => nomatch z)).trans e5, d3.mono k⟩⟩, ⟨dx, D, od, upd_same, by rw [hs]; exact k.frz _ _ _ e7⟩⟩
theorem Wk.put (h : Wk K H p st B W N G r b s) {kvs : List (List Key × V)} (e : H B = some (.dT kvs)) {q : Pth} (ne : q ≠ p) {u : V} {c : Bg} (bu : BgAt K H u c) : Kp (Lw B W N G r) H (upd H B (.dT (putK kvs (pK q) u))) ∧ Wk K (upd H B (.dT (putK kvs (pK q) u))) p st B W N G r b { s with bgs := putB s.bgs q c } := by
  have k : Kp (Lw B W N G r) H (upd H B (.dT (putK kvs (pK q) u))) := Kp.refl.wr (by simp) e
  obtain ⟨⟨⟨dx, e1⟩, ⟨kvs2, e2, ks⟩, ⟨x1, e3, d1⟩, ⟨x2, e4, d2⟩, ⟨x3, e5, d3⟩⟩, ⟨dx2, D, od, e6, e7⟩⟩ := h
  rw [e] at e2
  cases e2
  exact ⟨k, ⟨⟨dx, (upd_ne (ne_of e1 e fun z => nomatch z)).trans e1⟩, ⟨_, upd_same, (ks.put (.inr ⟨ne, bu⟩)).mono (RK.mono k)⟩, ⟨x1, (upd_ne (ne_of e3 e fun z => nomatch z)).trans e3, d1.mono k⟩, ⟨x2, (upd_ne (ne_of e4 e fun z => nomatch z)).trans e4, d2.mono k⟩, ⟨x3, (upd_ne (ne_of e5 e fun z => nomatch z)).trans e5, d3.mono k⟩⟩, ⟨dx2, D, od, (upd_ne (ne_of e6 e fun z => nomatch z)).trans e6, k.frz _ _ _ e7⟩⟩
end
theorem catA1 {H : Hp} {pa t : Addr} {p : Pth} {i : Int} {Q : VK} (ep : H pa = some (.tup (p.map V.int))) (et : H t = some (.tup [.int i])) (few : p.length ≤ 50000) (q : ∀ Ha a, Kp [] H Ha → Ha a = some (.tup ((p ++ [i]).map V.int)) → Q (.ref a) Ha) : rCatA K (.ref pa) (.ref t) H Q := by
  refine ⟨pa, t, _, _, rfl, rfl, SqT.of ep, SqT.of et, by rw [List.length_map]; show p.length + 1 ≤ sizeLine; exact small (by omega), fun z => ?_, fun _ z => (nomatch z), fun _ _ t3 nt3 => ?_⟩
  · have z2 : p = [] := List.map_eq_nil_iff.mp z
    exact q H t .refl (by rw [z2]; exact et)
  · exact q _ t3 (Kp.refl.new nt3) (by rw [upd_same, List.map_append]; rfl)
def DdOk (prg : Prg) : Dd → Prop
  | .send _ _ as => as.length ≤ 10 ∧ ∀ i ∈ as, Bv i
  | .spawn k as => ∃ a, actOf prg k = some a ∧ ActOk2 a ∧ as.length = a.pars.length ∧ ∀ i ∈ as, Bv i
  | .call _ as _ => as.length ≤ 10 ∧ ∀ i ∈ as, Bv i
structure Szs (n : Nat) (s : Sta) : Prop where
  b : s.bgs.length ≤ n
  w : s.wt.length ≤ n
  p : s.pn.length ≤ n
  g : s.gn.length ≤ n
theorem carryL_drop {prg : Prg} {p : Pth} {ds : List Dd} {i : Nat} {d : Dd} {b : Bg} {s : Sta} (h : ds[i]? = some d) : carryL prg p (ds.drop i) b s = carryL prg p (ds.drop (i + 1)) (carry1 prg p b s d).1 (carry1 prg p b s d).2 := by
  obtain ⟨lt, e⟩ := List.getElem?_eq_some_iff.mp h
  rw [List.drop_eq_getElem_cons lt, e]
  rfl
def spCo (K : PySem.W.Frag) : Sp := fun vs H Q _ => ∃ v st pa dl e p prg ds b s B W N G r oe de, vs = [v, .ref st, .ref pa, dl, .ref e] ∧ PrgAt K H v prg ∧ H pa = some (.tup (p.map V.int)) ∧ Di H dl (.list (ds.map ddD)) ∧ H e = some (.frz oe (.ins (He.ga K "Plain") de [])) ∧
  Wk K H p st B W N G r b s ∧ Dst st W N G r ∧ (getB s.bgs p).isSome = true ∧ (∀ d ∈ ds, DdOk prg d) ∧ ds.length ≤ 60 ∧ Szs 50000 s ∧ p.length ≤ 50000 ∧
  ∀ Ha, Kp (Lw B W N G r) H Ha → Wk K Ha p st B W N G r (carryL prg p ds b s).1 (carryL prg p ds b s).2 → Q .non Ha
theorem ok_carry_out (T : Tx K mg) : FnOk P w K mg base (L2N.CX P w) 11 (He.ga K "_carry_out") T.fd_carry_out P_carry_out (spCo K) := by
  refine T.D_carry_out.ok sc_carry_out (fun vs H Q E h => by obtain ⟨v, st, pa, dl, e, p, prg, ds, b, s, B, W, N, G, r, oe, de, rfl, _⟩ := h; rfl) fun cdv A outer sh H vs Q E hr h => ⟨_, (pss_cons (ps_set (i := 5) sc_carry_out.nd rfl (.inl rfl) (pe_dget (hu_of hr) (pe_fe T.c_State T.n_State_beings (pv 1)) (pv 2) (fun _ _ => rfl)))
    (pss_one (ps_for PassesOwn.leaving rfl (pi_list (pv 3)) (pg_name (i := 6) sc_carry_out.nd rfl (.inl rfl))
    (pss_one (ps_if (pt_cmpR op_eq (pe_ti (pv 6)) pe_str (nomark _))
    (pss_cons (ps_set (i := 7) sc_carry_out.nd rfl (.inl rfl) (pe_callS (ok_receiver T) (hr.mono (by decide)) rfl T.g__receiver T.p_receiver T.b_receiver (fun σ => L2N.passAt (L2N.takes_of rfl rfl rfl rfl) σ) (pa_cons (pv 2) (pa_cons (pe_ti (pv 6)) pa_nil))))
    (pss_cons (ps_if (pt_cmpR op_notN (pv 7) pe_non (nomark _))
    (pss_one (ps_expr (pe_bm PySem.F.plainAttrs_list PySem.F.slot_list_append PySem.F.type_list_append mt_append (pe_fe T.c_State T.n_State_waiting (pv 1)) (pa_cons (pe_tup (pa_cons (pv 7) (pa_cons (pe_ti (pv 6)) (pa_cons (pe_ti (pv 6)) (pa_cons (pe_tup (pa_cons pe_str (pa_cons (pv 2) (pa_cons (pe_fe T.c_Being T.n_Being_sent (pv 5)) pa_nil)))) pa_nil))))) pa_nil))))
    pss_nil)
    (pss_one (ps_fa T.c_Being T.n_Being_sent (pv 5) pe_int))))
    (pss_one (ps_if (pt_cmpR op_eq (pe_ti (pv 6)) pe_str (nomark _))
    (pss_cons (ps_dput (hu_of hr) (pe_fe T.c_State T.n_State_beings (pv 1)) (pe_op op_catA (pv 2) (pe_tup (pa_cons (pe_fe T.c_Being T.n_Being_spawned (pv 5)) pa_nil))) (pe_callS (ok_born_with T) (hr.mono (by decide)) rfl T.g__born_with T.p_born_with T.b_born_with (fun σ => L2N.passAt (L2N.takes_of rfl rfl rfl rfl) σ) (pa_cons (pv 0) (pa_cons (pe_ti (pv 6)) (pa_cons (pe_ti (pv 6)) (pa_cons (pv 4) pa_nil))))) rfl)
    (pss_one (ps_fa T.c_Being T.n_Being_spawned (pv 5) pe_int)))
    (pss_cons (ps_set (i := 8) sc_carry_out.nd rfl (.inl rfl) (pe_tup (pa_cons (pv 2) (pa_cons (pe_fe T.c_Being T.n_Being_called (pv 5)) pa_nil))))
    (pss_cons (ps_expr (pe_bm PySem.F.plainAttrs_list PySem.F.slot_list_append PySem.F.type_list_append mt_append (pe_fe T.c_State T.n_State_gone (pv 1)) (pa_cons (pe_tup (pa_cons (pv 8) (pa_cons (pe_ti (pv 6)) (pa_cons (pe_ti (pv 6)) pa_nil)))) pa_nil)))
    (pss_cons (ps_expr (pe_bm PySem.F.plainAttrs_list PySem.F.slot_list_append PySem.F.type_list_append mt_append (pe_fe T.c_State T.n_State_pending (pv 1)) (pa_cons (pe_tup (pa_cons (pv 8) (pa_cons (pe_ti (pv 6)) (pa_cons (pe_ti (pv 6)) (pa_cons (pe_ti (pv 6)) pa_nil))))) pa_nil)))
    (pss_one (ps_fa T.c_Being T.n_Being_called (pv 5) pe_int)))))))))))), ?_⟩
  obtain ⟨v, st, pa, dl, e, p, prg, ds, b, s, B, W, N, G, r, oe, de, rfl, hp, epa, ddl, ee, wk, dst, hb, hds, few, szs, pl, q⟩ := h
  obtain ⟨l, ol, xs, rfl, el, dxs⟩ := ddl.inv_lst
  have lx : xs.length = ds.length := by rw [dxs.length, List.length_map]
  have epk : ∀ {Ha : Hp}, Kp (Lw B W N G r) H Ha → Ha pa = some (.tup ((pK p).map kV)) := fun k => by rw [pK_kV]; exact k.tup _ _ epa
  obtain ⟨dx0, es0⟩ := wk.sta.ins
  obtain ⟨kvs0, eB0, ks0⟩ := wk.sta.bgs
  obtain ⟨c0, hc0⟩ := Option.isSome_iff_exists.mp hb
  obtain ⟨u0, hu0, ru0⟩ := ks0.some hc0
  have hu : u0 = .ref r := ru0.elim (fun z => z.2) fun z => absurd rfl z.1
  subst hu
  refine ⟨_, rfl, st, dx0, _, _, rfl, es0, rfl, _, rfl, B, .ref r, rfl, .inr ⟨kvs0, pK p, pa, .inl eB0, rfl, epk .refl, hu0.symm⟩, ?_⟩
  refine ⟨_, rfl, l, rfl, ⟨xs, .inl (.inr ⟨ol, el⟩)⟩, for_list (xs := xs) (fun i σ Ha => ∃ t1 t2 t3 b1 s1, σ = [some v, some (.ref st), some (.ref pa), some (.ref l), some (.ref e), some (.ref r), t1, t2, t3] ∧ Kp (Lw B W N G r) H Ha ∧ Wk K Ha p st B W N G r b1 s1 ∧ carryL prg p ds b s = carryL prg p (ds.drop i) b1 s1 ∧ Szs (50000 + i) s1) ⟨none, none, none, b, s, rfl, .refl, wk, rfl, szs⟩ (fun i σ Ha _ ⟨_, _, _, _, _, _, k, _⟩ => .inl (.inr ⟨ol, k.frz _ _ _ el⟩)) (fun i x σ Ha hx ⟨t1, t2, t3, b1, s1, eσ, k, wk1, hc, sz⟩ => ?_) fun σ Ha ⟨t1, t2, t3, b1, s1, eσ, k, wk1, hc, sz⟩ => ?_⟩
  · subst eσ
    obtain ⟨de1, hde, dx⟩ := dxs.at' hx
    rw [List.getElem?_map] at hde
    obtain ⟨dd, hd, rfl⟩ : ∃ d, ds[i]? = some d ∧ ddD d = de1 := by
      cases q : ds[i]? with
      | none => rw [q] at hde; cases hde
      | some e => rw [q] at hde; exact ⟨e, rfl, Option.some.inj hde⟩
    rw [carryL_drop hd] at hc
    have il : i < ds.length := (List.getElem?_eq_some_iff.mp hd).1
    have dok := hds dd (List.mem_of_getElem? hd)
    obtain ⟨s1b, s1w, s1p, s1g⟩ := id sz
    have dx := dx.mono k
    have epa1 := k.tup _ _ epa
    -- the being's number is written last
    cases dd with
    | send t m as =>
      obtain ⟨pd, v0, v1, v2, v3, rfl, epd, f0, f1, f2, f3⟩ := Di.inv4 (show Di Ha x (.tuple [.str "send", tvD t, .str m, inD as]) from dx)
      cases f0.inv_str
      cases f2.inv_str
      obtain ⟨aa, rfl, eaa⟩ := f3.inv_ints
      have fin : ∀ (Hb : Hp) (t2 : Option V) (s2 : Sta), Kp (Lw B W N G r) H Hb → Wk K Hb p st B W N G r b1 s2 → (carry1 prg p b1 s1 (.send t m as)).2 = s2 → Szs (50000 + (i + 1)) s2 → ∃ dxb D, Hb r = some (.ins (He.ga K "Being") dxb (bgF b1 D)) ∧
          ∃ t1 t2' t3' b1' s1', [some v, some (.ref st), some (.ref pa), some (.ref l), some (.ref e), some (.ref r), some (.ref pd), t2, t3] = [some v, some (.ref st), some (.ref pa), some (.ref l), some (.ref e), some (.ref r), t1, t2', t3'] ∧ Kp (Lw B W N G r) H (upd Hb r (.ins (He.ga K "Being") dxb (bgF { b1 with sent := b1.sent + 1 } D))) ∧ Wk K (upd Hb r (.ins (He.ga K "Being") dxb (bgF { b1 with sent := b1.sent + 1 } D))) p st B W N G r b1' s1' ∧ carryL prg p ds b s = carryL prg p (ds.drop (i + 1)) b1' s1' ∧ Szs (50000 + (i + 1)) s1' := by
        intro Hb t2 s2 kb wb es2 sz2
        obtain ⟨dxb, D, od, er, eD⟩ := wb.bng
        obtain ⟨k9, w9⟩ := wb.setB dst er { b1 with sent := b1.sent + 1 } rfl
        refine ⟨dxb, D, er, _, t2, t3, { b1 with sent := b1.sent + 1 }, s2, rfl, kb.trans k9, w9, ?_, sz2⟩
        rw [hc, es2]
        rfl
      refine ⟨_, rfl, pd, _, _, rfl, epd, rfl, rfl, _, rfl, iT rfl ⟨_, rfl, _, rfl, pd, _, _, rfl, epd, rfl, pa, p, _, t, rfl, epa1, f1, pl, fun rp Hb a hrp kb ea => ?_, fun hrp => ?_⟩⟩
      · have wb := wk1.keep kb
        obtain ⟨dxs, es⟩ := wb.sta.ins
        obtain ⟨xw, eW, dw⟩ := wb.sta.wt
        obtain ⟨dxb, D, od, er, eD⟩ := wb.bng
        have lw : xw.length = s1.wt.length := by rw [dw.length, List.length_map]
        have epd' := kb.tup _ _ epd
        refine ⟨_, rfl, rfl, _, rfl, iT rfl ⟨_, rfl, st, dxs, _, _, rfl, es, rfl, .inl ⟨rfl, _, SqL.of eW⟩, _, rfl, _, rfl, pd, _, _, rfl, epd', rfl, _, rfl, pd, _, _, rfl, epd', rfl, _, rfl, _, rfl, r, dxb, _, _, rfl, er, rfl, by show 3 ≤ sizeLine; decide, fun g1 ng1 => ⟨by show 4 ≤ sizeLine; decide, fun g2 ng2 => ?_⟩⟩⟩
        have kc : Kp [] Hb (upd (upd Hb g1 (.tup [.str "sent", .ref pa, .int b1.sent])) g2 (.tup [.ref a, .str m, .ref aa, .ref g1])) := (Kp.refl.new ng1).new ng2
        have wc := wb.keep kc
        have eg1 : (upd (upd Hb g1 (.tup [.str "sent", .ref pa, .int b1.sent])) g2 (.tup [.ref a, .str m, .ref aa, .ref g1])) g1 = some (.tup [.str "sent", .ref pa, .int b1.sent]) := (upd_ne (ne_of_none upd_same ng2)).trans upd_same
        have dv : Di (upd (upd Hb g1 (.tup [.str "sent", .ref pa, .int b1.sent])) g2 (.tup [.ref a, .str m, .ref aa, .ref g1])) (.ref g2) (wtD ⟨rp, m, as, .sent p b1.sent⟩) :=
          .tup upd_same (.cons (.tup (kc.tup _ _ ea) (Dl.ints rp)) (.cons (.str m) (.cons (.tup (kc.tup _ _ (kb.tup _ _ eaa)) (Dl.ints as)) (.cons (.tup eg1 (.cons (.str _) (.cons (.tup (kc.tup _ _ (kb.tup _ _ epa1)) (Dl.ints p)) (.cons (.int _) .nil)))) .nil))))
        have eW2 := kc.same _ _ eW
        obtain ⟨k8, w8⟩ := wc.addW dst eW2 dv
        refine ⟨W, xw, _, rfl, rfl, eW2, by rw [lw]; exact small' (by omega), ?_⟩
        obtain ⟨dxb2, D2, er2, inv⟩ := fin _ (some (.ref a)) _ (((k.then0 kb).then0 kc).trans k8) w8 (by show (match recv p t with | some r => _ | none => s1) = _; rw [hrp]) ⟨by show s1.bgs.length ≤ _; omega, by show (s1.wt ++ [_]).length ≤ _; rw [List.length_append]; simp only [List.length_cons, List.length_nil]; omega, by show s1.pn.length ≤ _; omega, by show s1.gn.length ≤ _; omega⟩
        exact ⟨_, rfl, r, dxb2, _, b1.sent, rfl, er2, rfl, 1, dxb2, _, rfl, er2, (by decide : (6 : Nat) < 1000), inv⟩
      · obtain ⟨dxb2, D2, er2, inv⟩ := fin Ha (some .non) s1 k wk1 (by show (match recv p t with | some r => _ | none => s1) = _; rw [hrp]) ⟨by omega, by omega, by omega, by omega⟩
        exact ⟨_, rfl, rfl, _, rfl, iF rfl ⟨_, rfl, r, dxb2, _, b1.sent, rfl, er2, rfl, 1, dxb2, _, rfl, er2, (by decide : (6 : Nat) < 1000), inv⟩⟩
    | spawn kd as =>
      obtain ⟨pd, v0, v1, v2, rfl, epd, f0, f1, f2⟩ := Di.inv3 (show Di Ha x (.tuple [.str "spawn", .str kd, inD as]) from dx)
      cases f0.inv_str
      cases f1.inv_str
      obtain ⟨aa, rfl, eaa⟩ := f2.inv_ints
      obtain ⟨act, ha, aok, alen, abv⟩ := dok
      refine ⟨_, rfl, pd, _, _, rfl, epd, rfl, rfl, _, rfl, iF rfl ⟨_, rfl, pd, _, _, rfl, epd, rfl, rfl, _, rfl, iT rfl ⟨_, rfl, _, rfl, pd, _, _, rfl, epd, rfl, _, rfl, pd, _, _, rfl, epd, rfl, _, rfl, v, kd, aa, e, oe, de, prg, act, as, rfl, hp.mono k, ha, aok, eaa, alen, abv, k.frz _ _ _ ee, fun Hb u kb bu => ?_⟩⟩⟩
      have wb := wk1.keep kb
      obtain ⟨dxs, es⟩ := wb.sta.ins
      obtain ⟨dxb, D, od, er, eD⟩ := wb.bng
      refine ⟨_, rfl, st, dxs, _, _, rfl, es, rfl, _, rfl, _, rfl, r, dxb, _, _, rfl, er, rfl, by show 1 ≤ sizeLine; decide, fun g1 ng1 => catA1 (i := b1.spawned) ((Kp.refl (L := []).new ng1).tup _ _ (kb.tup _ _ epa1)) upd_same pl fun Hc a kc ea => ?_⟩
      have kbc : Kp [] Hb Hc := (Kp.refl.new ng1).trans kc
      have wc := wb.keep kbc
      obtain ⟨kvs, eB, ks⟩ := wc.sta.bgs
      have lb : kvs.length = s1.bgs.length := ks.len
      have eak : Hc a = some (.tup ((pK (p ++ [b1.spawned])).map kV)) := by rw [pK_kV]; exact ea
      refine ⟨B, _, rfl, DPut.t eB eak (by rw [lb]; exact small' (by omega)), ?_⟩
      have npn : p ++ [b1.spawned] ≠ p := fun z => by have := congrArg List.length z; simp at this
      obtain ⟨k8, w8⟩ := wc.put eB npn (bu.mono kbc)
      obtain ⟨dxb2, D2, od2, er2, eD2⟩ := w8.bng
      obtain ⟨k9, w9⟩ := w8.setB dst er2 { b1 with spawned := b1.spawned + 1 } rfl
      refine ⟨_, rfl, r, dxb2, _, b1.spawned, rfl, er2, rfl, 1, dxb2, _, rfl, er2, (by decide : (6 : Nat) < 1000), ?_⟩
      have l2 := len_putB s1.bgs (p ++ [b1.spawned]) (bornA kd act as)
      have eW : bornW prg kd as = bornA kd act as := by unfold bornW; rw [ha]
      refine ⟨_, t2, t3, { b1 with spawned := b1.spawned + 1 }, _, rfl, ((k.then0 kb).then0 kbc |>.trans k8).trans k9, w9, ?_, ⟨by show (putB s1.bgs _ _).length ≤ _; omega, by show s1.wt.length ≤ _; omega, by show s1.pn.length ≤ _; omega, by show s1.gn.length ≤ _; omega⟩⟩
      rw [hc]
      show carryL prg p _ { b1 with spawned := b1.spawned + 1 } { s1 with bgs := putB s1.bgs (p ++ [b1.spawned]) (bornW prg kd as) } = _
      rw [eW]
    | call f as m =>
      obtain ⟨pd, v0, v1, v2, v3, rfl, epd, f0, f1, f2, f3⟩ := Di.inv4 (show Di Ha x (.tuple [.str "call", .str f, inD as, oS m]) from dx)
      cases f0.inv_str
      cases f1.inv_str
      obtain ⟨aa, rfl, eaa⟩ := f2.inv_ints
      obtain ⟨dxb, D, od, er, eD⟩ := wk1.bng
      refine ⟨_, rfl, pd, _, _, rfl, epd, rfl, rfl, _, rfl, iF rfl ⟨_, rfl, pd, _, _, rfl, epd, rfl, rfl, _, rfl, iF rfl ⟨_, rfl, _, rfl, r, dxb, _, _, rfl, er, rfl, by show 2 ≤ sizeLine; decide, fun g1 ng1 => ?_⟩⟩⟩
      have ka : Kp [] Ha (upd Ha g1 (.tup [.ref pa, .int b1.called])) := Kp.refl.new ng1
      have eg1 : (upd Ha g1 (.tup [.ref pa, .int b1.called])) g1 = some (.tup [.ref pa, .int b1.called]) := upd_same
      have wb := wk1.keep ka
      have kk := k.then0 ka
      revert ka eg1 wb kk
      generalize (upd Ha g1 (.tup [.ref pa, .int b1.called])) = Hb
      intro ka eg1 wb kk
      obtain ⟨dxs, es⟩ := wb.sta.ins
      obtain ⟨xg, eG, dg⟩ := wb.sta.gn
      have lg : xg.length = s1.gn.length := by rw [dg.length, List.length_map]
      have epd1 := ka.tup _ _ epd
      refine ⟨_, rfl, st, dxs, _, _, rfl, es, rfl, .inl ⟨rfl, _, SqL.of eG⟩, _, rfl, _, rfl, pd, _, _, rfl, epd1, rfl, _, rfl, pd, _, _, rfl, epd1, rfl, by show 3 ≤ sizeLine; decide, fun g2 ng2 => ?_⟩
      have kc : Kp [] Hb (upd Hb g2 (.tup [.ref g1, .str f, .ref aa])) := Kp.refl.new ng2
      have keyd : ∀ {Hz : Hp}, Kp [] Hb Hz → Di Hz (.ref g1) (keyD p b1.called) := fun kz => .tup (kz.tup _ _ eg1) (.cons (.tup (kz.tup _ _ (ka.tup _ _ epa1)) (Dl.ints p)) (.cons (.int _) .nil))
      have dv : Di (upd Hb g2 (.tup [.ref g1, .str f, .ref aa])) (.ref g2) (gnD ⟨p, b1.called, f, as⟩) := .tup upd_same (.cons (keyd kc) (.cons (.str f) (.cons (.tup (kc.tup _ _ (ka.tup _ _ eaa)) (Dl.ints as)) .nil)))
      have eG2 := kc.same _ _ eG
      obtain ⟨k8, w8⟩ := (wb.keep kc).addG dst eG2 dv
      refine ⟨G, xg, _, rfl, rfl, eG2, by rw [lg]; exact small' (by omega), ?_⟩
      have kk2 := (kk.then0 kc).trans k8
      have epd2 := (kc.tup _ _ epd1 : _)
      have epd3 := k8.tup _ _ epd2
      have keyd2 : ∀ {Hz : Hp}, Kp [] (upd (upd Hb g2 (.tup [.ref g1, .str f, .ref aa])) G (.lst (xg ++ [.ref g2]))) Hz → Di Hz (.ref g1) (keyD p b1.called) := fun kz => ((keyd kc).mono k8).mono kz
      have eaa3 := k8.tup _ _ (kc.tup _ _ (ka.tup _ _ eaa))
      have f3c := ((f3.mono ka).mono kc).mono k8
      revert kk2 epd3 keyd2 w8 eaa3 f3c
      generalize (upd (upd Hb g2 (.tup [.ref g1, .str f, .ref aa])) G (.lst (xg ++ [.ref g2]))) = Hc
      intro w8 kk2 epd3 keyd2 eaa3 f3c
      obtain ⟨dxs, es⟩ := w8.sta.ins
      obtain ⟨xn, eN, dn⟩ := w8.sta.pn
      have ln : xn.length = s1.pn.length := by rw [dn.length, List.length_map]
      refine ⟨_, rfl, st, dxs, _, _, rfl, es, rfl, .inl ⟨rfl, _, SqL.of eN⟩, _, rfl, _, rfl, pd, _, _, rfl, epd3, rfl, _, rfl, pd, _, _, rfl, epd3, rfl, _, rfl, pd, _, _, rfl, epd3, rfl, by show 4 ≤ sizeLine; decide, fun g3 ng3 => ?_⟩
      have kd : Kp [] Hc (upd Hc g3 (.tup [.ref g1, .str f, .ref aa, v3])) := Kp.refl.new ng3
      have dv3 : Di (upd Hc g3 (.tup [.ref g1, .str f, .ref aa, v3])) (.ref g3) (pnD ⟨p, b1.called, f, as, m⟩) := .tup upd_same (.cons (keyd2 kd) (.cons (.str f) (.cons (.tup (kd.tup _ _ eaa3) (Dl.ints as)) (.cons (f3c.mono kd) .nil))))
      have eN2 := kd.same _ _ eN
      obtain ⟨k9, w9⟩ := (w8.keep kd).addN dst eN2 dv3
      refine ⟨N, xn, _, rfl, rfl, eN2, by rw [ln]; exact small' (by omega), ?_⟩
      obtain ⟨dxb3, D3, od3, er3, eD3⟩ := w9.bng
      obtain ⟨k10, w10⟩ := w9.setB dst er3 { b1 with called := b1.called + 1 } rfl
      refine ⟨_, rfl, r, dxb3, _, b1.called, rfl, er3, rfl, 1, dxb3, _, rfl, er3, (by decide : (6 : Nat) < 1000), ?_⟩
      refine ⟨_, t2, _, { b1 with called := b1.called + 1 }, _, rfl, ((kk2.then0 kd).trans k9).trans k10, w10, ?_, ⟨by show s1.bgs.length ≤ _; omega, by show s1.wt.length ≤ _; omega, by show (s1.pn ++ [_]).length ≤ _; rw [List.length_append]; simp only [List.length_cons, List.length_nil]; omega, by show (s1.gn ++ [_]).length ≤ _; rw [List.length_append]; simp only [List.length_cons, List.length_nil]; omega⟩⟩
      rw [hc]
      rfl
  · subst eσ
    rw [lx, List.drop_length] at hc
    rw [hc] at q
    exact q Ha k wk1
end
end Rk
/-! Plain laws of runs and deeds: what a run may ask for; what stays right. -/
namespace Rk
open PySem PySem.Spec PyProof.Rows L2
mutual
def St.spk (prg : Prg) : St → Prop
  | .iff _ a b => bSpk prg a ∧ bSpk prg b
  | .rep _ a => bSpk prg a
  | .spawn k as _ => ∃ act, actOf prg k = some act ∧ ActOk2 act ∧ as.length = act.pars.length
  | .send _ _ as => as.length ≤ 10
  | .call _ as _ => as.length ≤ 10
  | _ => True
def bSpk (prg : Prg) : List St → Prop
  | [] => True
  | s :: r => s.spk prg ∧ bSpk prg r
end
theorem evs_Bv {f : Nm} (h : BNm f) : ∀ {es : List Ex} {vs : List Int}, evs f es = .ok vs → (∀ v ∈ vs, Bv v) ∧ vs.length = es.length
  | [], vs, e => by cases e; exact ⟨fun _ m => (nomatch m), rfl⟩
  | x :: r, vs, e => by
    obtain ⟨v, e1, e⟩ := Er.bind_ok e
    obtain ⟨us, e2, e⟩ := Er.bind_ok e
    cases e
    obtain ⟨a, b⟩ := evs_Bv h e2
    refine ⟨fun u m => ?_, by simp [b]⟩
    rcases List.mem_cons.mp m with rfl | m
    · exact ev_Bv h e1
    · exact a u m
def DdAll (prg : Prg) (s : Rs) : Prop := ∀ d ∈ s.dd, DdOk prg d
def Rr.dds (prg : Prg) : Rr → Prop
  | .go t | .stop t => DdAll prg t
  | .bad _ _ => True
theorem Er.rr_dds {α : Type} {prg : Prg} {r : Er α} {s : Rs} {k : α → Rr} (h : ∀ a, r = .ok a → (k a).dds prg) : (r.rr s k).dds prg := by
  cases r with
  | ok a => exact h a rfl
  | bad w => trivial
theorem addD_dds {prg : Prg} {s : Rs} {d : Dd} {k : Rs → Rs} (h : DdAll prg s) (hd : DdOk prg d) (hk : ∀ t, (k t).dd = t.dd) : (addD s d k).dds prg := by
  unfold addD
  split
  · trivial
  · intro x m
    rw [hk] at m
    rcases List.mem_append.mp m with m | m
    · exact h x m
    · rw [List.mem_singleton.mp m]; exact hd
theorem iter_dds {prg : Prg} {D : Str → Prop} {f : Rs → Rr} (hf : ∀ s, RsOk D s → DdAll prg s → (f s).ok D ∧ (f s).dds prg) : ∀ (n : Nat) (s : Rs), RsOk D s → DdAll prg s → (iter f n s).dds prg
  | 0, s, _, h => h
  | n + 1, s, o, h => by
    obtain ⟨q1, q2⟩ := hf s o h
    unfold iter
    cases e : f s with
    | go t => rw [e] at q1 q2; exact iter_dds hf n t q1 q2
    | stop t => rw [e] at q2; exact q2
    | bad t w => trivial
mutual
theorem runS_dds {prg : Prg} {D : Str → Prop} : ∀ (st : St) (s : Rs), St.ok D st → st.spk prg → RsOk D s → DdAll prg s → (runS st s).dds prg
  | .set x e, s, o, k, h, d => Er.rr_dds fun v hv => d
  | .iff e a b, s, o, k, h, d => Er.rr_dds fun v hv => by
    by_cases z : v ≠ 0
    · rw [if_pos z]; exact runL_dds a s o.2.1 k.1 h d
    · rw [if_neg z]; exact runL_dds b s o.2.2 k.2 h d
  | .rep e a, s, o, k, h, d => Er.rr_dds fun v hv => by
    by_cases z : 0 ≤ v ∧ v ≤ 20
    · rw [if_pos z]; exact iter_dds (D := D) (fun t ht dt => ⟨runL_ok a t o.2 ht, runL_dds a t o.2 k ht dt⟩) _ _ h d
    · rw [if_neg z]; trivial
  | .send t m as, s, o, k, h, d => Er.rr_dds fun t ht => Er.rr_dds fun vs hvs => by
    obtain ⟨a, b⟩ := evs_Bv h.bnm hvs
    exact addD_dds d ⟨by rw [b]; exact k, a⟩ fun _ => rfl
  | .spawn kd as x, s, o, k, h, d => Er.rr_dds fun vs hvs => by
    obtain ⟨a, b⟩ := evs_Bv h.bnm hvs
    obtain ⟨act, q1, q2, q3⟩ := k
    exact addD_dds d ⟨act, q1, q2, by rw [b]; exact q3, a⟩ fun _ => rfl
  | .call f as m, s, o, k, h, d => Er.rr_dds fun vs hvs => by
    obtain ⟨a, b⟩ := evs_Bv h.bnm hvs
    exact addD_dds d ⟨by rw [b]; exact k, a⟩ fun _ => rfl
  | .stop, s, o, k, h, d => d
  | .fail, s, o, k, h, d => trivial
theorem runL_dds {prg : Prg} {D : Str → Prop} : ∀ (b : List St) (s : Rs), bOk D b → bSpk prg b → RsOk D s → DdAll prg s → (runL b s).dds prg
  | [], s, o, k, h, d => d
  | x :: r, s, o, k, h, d => by
    have q := runS_ok x s o.1 h
    have q2 := runS_dds x s o.1 k.1 h d
    show (match runS x s with | .go t => runL r t | z => z).dds prg
    cases e : runS x s with
    | go t => rw [e] at q q2; exact runL_dds r t o.2 k.2 q q2
    | stop t => rw [e] at q2; exact q2
    | bad t w => trivial
end
structure HdGood (prg : Prg) (h : Hd) (ks : List Str) : Prop extends HdOk h ks where
  spk : bSpk prg h.body
structure RwOk (h : Hd) (sts : Env) (sp : Int) (as : List Int) : Prop where
  so : StsOk sts
  len : as.length = h.pars.length
  bas : ∀ i ∈ as, Bv i
  sp0 : 0 ≤ sp
  sp1 : sp ≤ 100000000
theorem nv0_ok {h : Hd} {sts : Env} {sp : Int} {as : List Int} (r : RwOk h sts sp as) : RsOk (hdom h (sts.map (·.1))) ⟨nv0 h sts as, sp, []⟩ := by
  have be : BEnv (parE sts (h.pars.zip as)) := r.so.be.par fun p m => r.bas _ (List.of_mem_zip m).2
  refine ⟨fun x i e => ?_, fun x m => ?_, r.sp0, by have := r.sp1; show sp ≤ 100000000 + (([] : List Dd).length : Int); simp; exact this, by simp⟩
  · change nv0 h sts as x = some i at e
    unfold nv0 at e
    split at e
    · cases e; exact ⟨by decide, by decide⟩
    · exact be.nm x i e
  · show (nv0 h sts as x).isSome = true
    unfold nv0
    split
    · rfl
    · rename_i z
      refine getN_some (mem_parE.mpr ?_)
      have l := r.len
      rw [List.map_fst_zip (by omega)]
      rcases m with m | m | m
      · exact .inl m
      · exact .inr m
      · exact Classical.byContradiction fun q => z ⟨m, fun y => (List.mem_append.mp y).elim (fun a => q (.inl a)) fun a => q (.inr a)⟩
/-- what a run leads to is right again -/
structure OutOk (prg : Prg) (sts : Env) (o : Out) : Prop where
  so : StsOk o.sts
  keys : o.sts.map (·.1) = sts.map (·.1)
  dds : ∀ d ∈ o.dds, DdOk prg d
  few : o.dds.length ≤ 60
theorem aft_ok {h : Hd} {f : Nm} {sts : Env} (so : StsOk sts) (bf : BNm f) : StsOk (aft h f sts) := by
  refine ⟨by rw [aft_keys]; exact so.nd, fun p m => ?_, by unfold aft; rw [List.length_map]; exact so.few⟩
  obtain ⟨q, hq, e⟩ := List.mem_map.mp m
  rw [← e]
  show Bv (if q.1 ∈ h.pars then q else (q.1, (f q.1).getD 0)).2
  split
  · exact so.be q hq
  · show Bv ((f q.1).getD 0)
    cases z : f q.1 with
    | none => exact ⟨by decide, by decide⟩
    | some i => exact bf _ _ z
theorem runW_ok {prg : Prg} {h : Hd} {sts : Env} {sp : Int} {as : List Int} (g : HdGood prg h (sts.map (·.1))) (r : RwOk h sts sp as) : OutOk prg sts (runW h sts sp as) := by
  have o := nv0_ok r
  have q1 := runL_ok h.body _ g.body o
  have q2 := runL_dds (prg := prg) h.body _ g.body g.spk o (fun _ m => (nomatch m))
  unfold runW
  cases e : runL h.body ⟨nv0 h sts as, sp, []⟩ with
  | go t => rw [e] at q1 q2; exact ⟨aft_ok r.so q1.bnm, aft_keys .., q2, q1.few⟩
  | stop t => rw [e] at q1 q2; exact ⟨aft_ok r.so q1.bnm, aft_keys .., q2, q1.few⟩
  | bad t why => exact ⟨r.so, rfl, fun _ m => (nomatch m), Nat.zero_le _⟩
/-! ### the machine's invariant -/
structure PrgOk (prg : Prg) : Prop where
  acts : ∀ k a, actOf prg k = some a → ActOk2 a
  hds : ∀ k a, actOf prg k = some a → ∀ h ∈ a.hds, HdGood prg h (a.sts.map (·.1))
/-- a being, at most M numbers spawned -/
structure BgOk (prg : Prg) (M : Nat) (b : Bg) : Prop where
  kind : ∃ a, actOf prg b.kind = some a ∧ b.sts.map (·.1) = a.sts.map (·.1)
  so : StsOk b.sts
  sp0 : 0 ≤ b.spawned
  sp1 : b.spawned ≤ M
structure StaOk (prg : Prg) (M : Nat) (s : Sta) : Prop where
  bgs : ∀ q b, (q, b) ∈ s.bgs → BgOk prg M b ∧ q.length ≤ M
  nd : (s.bgs.map (·.1)).Nodup
  wts : ∀ x ∈ s.wt, x.path.length ≤ M ∧ x.args.length ≤ 10 ∧ ∀ i ∈ x.args, Bv i
  pns : ∀ x ∈ s.pn, x.path.length ≤ M
  szs : Szs M s
theorem BgOk.up {prg : Prg} {M N : Nat} {b : Bg} (h : BgOk prg M b) (l : M ≤ N) : BgOk prg N b := ⟨h.kind, h.so, h.sp0, by have := h.sp1; omega⟩
theorem Szs.up {M N : Nat} {s : Sta} (h : Szs M s) (l : M ≤ N) : Szs N s := ⟨by have := h.b; omega, by have := h.w; omega, by have := h.p; omega, by have := h.g; omega⟩
theorem StaOk.up {prg : Prg} {M N : Nat} {s : Sta} (h : StaOk prg M s) (l : M ≤ N) : StaOk prg N s :=
  ⟨fun q b m => let ⟨a, c⟩ := h.bgs q b m; ⟨a.up l, by omega⟩, h.nd, fun x m => let ⟨a, c⟩ := h.wts x m; ⟨by omega, c⟩, fun x m => by have := h.pns x m; omega, h.szs.up l⟩
theorem begS_order : ∀ {b : List (Str × Ex)} {s n env : Env}, begS b s n = some env → (s.map (·.1) ++ b.map (·.1)).Nodup → env.map (·.1) = s.map (·.1) ++ b.map (·.1)
  | [], s, n, env, h, _ => by cases h; simp
  | (x, e) :: r, s, n, env, h, q => by
    unfold begS at h
    cases z : ev (getN n) e with
    | bad w => rw [z] at h; cases h
    | ok v =>
      rw [z] at h
      have no : x ∉ s.map (·.1) := fun m => (List.nodup_append.mp q).2.2 x m x (by simp) rfl
      have e1 : (putN s x v).map (·.1) = s.map (·.1) ++ [x] := by rw [putN_new v no, List.map_append]; rfl
      have q2 : ((putN s x v).map (·.1) ++ r.map (·.1)).Nodup := by rw [e1]; simpa using q
      rw [begS_order (b := r) h q2, e1]
      simp
theorem born_ok {prg : Prg} (po : PrgOk prg) {k : Str} {a : Act} {as : List Int} (ha : actOf prg k = some a) (ba : ∀ i ∈ as, Bv i) (M : Nat) : BgOk prg M (bornA k a as) := by
  have ok := po.acts k a ha
  have kn : (bornA k a as).kind = k := by unfold bornA; split <;> rfl
  have sp : (bornA k a as).spawned = 0 := by unfold bornA; split <;> rfl
  refine ⟨⟨a, by rw [kn]; exact ha, ?_⟩, bornA_sts ok ba, by rw [sp]; exact Int.le_refl _, by rw [sp]; omega⟩
  unfold bornA
  cases e : begA a as with
  | some env =>
    have ks := begS_keys e
    show env.map (·.1) = _
    exact (begS_order e (by simpa using ok.nds)).trans (by simp)
  | none => exact zeros_keys a
end Rk
/-! Plain laws of the machine: what stays right behind an event. -/
namespace Rk
open PySem PySem.Spec PyProof.Rows L2
theorem recv_len {p r : Pth} {t : Tv} (h : recv p t = some r) : r.length ≤ p.length + 1 := by
  cases t with
  | self => cases h; omega
  | child i => cases h; simp
  | par =>
    change (if p = [] then none else some p.dropLast) = some r at h
    by_cases z : p = []
    · rw [if_pos z] at h; cases h
    · rw [if_neg z] at h; cases h; rw [List.length_dropLast]; omega
theorem StaOk.put {prg : Prg} {M : Nat} {s : Sta} (h : StaOk prg M s) {q : Pth} {c : Bg} (bc : BgOk prg (M + 1) c) (lq : q.length ≤ M + 1) : StaOk prg (M + 1) { s with bgs := putB s.bgs q c } := by
  refine ⟨fun x b m => ?_, putB_keys h.nd, fun x m => let ⟨a, c⟩ := h.wts x m; ⟨by omega, c⟩, fun x m => by have := h.pns x m; omega, ⟨?_, by have := h.szs.w; show s.wt.length ≤ _; omega, by have := h.szs.p; show s.pn.length ≤ _; omega, by have := h.szs.g; show s.gn.length ≤ _; omega⟩⟩
  · rcases mem_putB m with e | m
    · cases e; exact ⟨bc, lq⟩
    · obtain ⟨a, b⟩ := h.bgs x b m
      exact ⟨a.up (Nat.le_succ _), by omega⟩
  · have := len_putB s.bgs q c
    have := h.szs.b
    show (putB s.bgs q c).length ≤ _
    omega
theorem StaOk.addW {prg : Prg} {M : Nat} {s : Sta} (h : StaOk prg M s) {x : Wt} (h1 : x.path.length ≤ M + 1) (h2 : x.args.length ≤ 10) (h3 : ∀ i ∈ x.args, Bv i) : StaOk prg (M + 1) { s with wt := s.wt ++ [x] } := by
  have u := h.up (Nat.le_succ M)
  refine ⟨u.bgs, h.nd, fun y m => ?_, u.pns, ⟨u.szs.b, ?_, u.szs.p, u.szs.g⟩⟩
  · rcases List.mem_append.mp m with m | m
    · exact u.wts y m
    · rw [List.mem_singleton.mp m]; exact ⟨h1, h2, h3⟩
  · show (s.wt ++ [x]).length ≤ _
    rw [List.length_append]
    have := h.szs.w
    simp only [List.length_cons, List.length_nil]
    omega
theorem carry1_ok {prg : Prg} (po : PrgOk prg) {M : Nat} {p : Pth} {b : Bg} {s : Sta} {d : Dd} (hs : StaOk prg M s) (hb : BgOk prg M b) (hd : DdOk prg d) (lp : p.length ≤ M) (hg : (getB s.bgs p).isSome = true) :
    StaOk prg (M + 1) (carry1 prg p b s d).2 ∧ BgOk prg (M + 1) (carry1 prg p b s d).1 ∧ (getB (carry1 prg p b s d).2.bgs p).isSome = true := by
  cases d with
  | send t m as =>
    refine ⟨?_, ⟨hb.kind, hb.so, hb.sp0, by have := hb.sp1; show b.spawned ≤ _; omega⟩, ?_⟩
    · show StaOk prg (M + 1) (match recv p t with | some r => _ | none => s)
      cases e : recv p t with
      | none => exact hs.up (Nat.le_succ _)
      | some r => exact hs.addW (by show r.length ≤ _; have := recv_len e; omega) hd.1 hd.2
    · show (getB (match recv p t with | some r => _ | none => s).bgs p).isSome = true
      cases e : recv p t with
      | none => exact hg
      | some r => exact hg
  | spawn k as =>
    obtain ⟨a, ha, aok, al, ab⟩ := hd
    have eW : bornW prg k as = bornA k a as := by unfold bornW; rw [ha]
    refine ⟨?_, ⟨hb.kind, hb.so, by have := hb.sp0; show 0 ≤ b.spawned + 1; omega, by have := hb.sp1; show b.spawned + 1 ≤ _; omega⟩, ?_⟩
    · show StaOk prg (M + 1) { s with bgs := putB s.bgs (p ++ [b.spawned]) (bornW prg k as) }
      rw [eW]
      exact hs.put (born_ok po ha ab _) (by rw [List.length_append]; simp only [List.length_cons, List.length_nil]; omega)
    · show (getB (putB s.bgs (p ++ [b.spawned]) (bornW prg k as)) p).isSome = true
      rw [getB_put]
      split
      · rfl
      · exact hg
  | call f as m =>
    have u := hs.up (Nat.le_succ M)
    refine ⟨⟨u.bgs, hs.nd, u.wts, fun y m => ?_, ⟨u.szs.b, u.szs.w, ?_, ?_⟩⟩, ⟨hb.kind, hb.so, hb.sp0, by have := hb.sp1; show b.spawned ≤ _; omega⟩, hg⟩
    · rcases List.mem_append.mp m with m | m
      · exact u.pns y m
      · rw [List.mem_singleton.mp m]; show p.length ≤ _; omega
    · show (s.pn ++ [_]).length ≤ _
      rw [List.length_append]
      have := hs.szs.p
      simp only [List.length_cons, List.length_nil]
      omega
    · show (s.gn ++ [_]).length ≤ _
      rw [List.length_append]
      have := hs.szs.g
      simp only [List.length_cons, List.length_nil]
      omega
theorem carryL_ok {prg : Prg} (po : PrgOk prg) {p : Pth} : ∀ (ds : List Dd) {M : Nat} {b : Bg} {s : Sta}, StaOk prg M s → BgOk prg M b → (∀ d ∈ ds, DdOk prg d) → p.length ≤ M → (getB s.bgs p).isSome = true →
    StaOk prg (M + ds.length) (carryL prg p ds b s).2 ∧ BgOk prg (M + ds.length) (carryL prg p ds b s).1 ∧ (getB (carryL prg p ds b s).2.bgs p).isSome = true
  | [], M, b, s, hs, hb, _, _, hg => ⟨hs, hb, hg⟩
  | d :: r, M, b, s, hs, hb, hd, lp, hg => by
    obtain ⟨a1, a2, a3⟩ := carry1_ok po hs hb (hd d List.mem_cons_self) lp hg
    have q := carryL_ok po r a1 a2 (fun x m => hd x (List.mem_cons_of_mem _ m)) (by omega) a3
    rw [show M + (d :: r).length = M + 1 + r.length from by rw [List.length_cons]; omega]
    exact q
theorem hdOf_mem {a : Act} {m : Str} {n : Nat} {h : Hd} (e : hdOf a m n = some h) : h ∈ a.hds ∧ h.pars.length = n := by
  refine ⟨List.mem_of_find?_eq_some e, ?_⟩
  have := of_decide_eq_true (List.find?_some (p := fun h : Hd => decide (h.msg = m ∧ h.pars.length = n)) e)
  exact this.2
theorem handler_ok {prg : Prg} (po : PrgOk prg) {M : Nat} {b : Bg} {m : Str} {n : Nat} {h : Hd} (hb : BgOk prg M b) (e : handler prg b m n = some h) : HdGood prg h (b.sts.map (·.1)) ∧ h.pars.length = n := by
  obtain ⟨a, ha, ks⟩ := hb.kind
  unfold handler at e
  rw [ha, Option.bind_some] at e
  obtain ⟨q1, q2⟩ := hdOf_mem e
  exact ⟨by rw [ks]; exact po.hds _ a ha h q1, q2⟩
theorem handle_ok {prg : Prg} (po : PrgOk prg) {M : Nat} {p : Pth} {b : Bg} {s : Sta} {m : Str} {as : List Int} {h : Hd} (lM : M ≤ 100000000) (hs : StaOk prg M s) (hb : BgOk prg M b) (lp : p.length ≤ M) (hg : (getB s.bgs p).isSome = true) (hh : HdGood prg h (b.sts.map (·.1))) (al : as.length = h.pars.length) (ab : ∀ i ∈ as, Bv i) :
    StaOk prg (M + 61) (handle prg s p m as b h).1 := by
  have rw_ : RwOk h b.sts b.spawned as := ⟨hb.so, al, ab, hb.sp0, by have := hb.sp1; omega⟩
  have o := runW_ok hh rw_
  have hb2 : BgOk prg M { b with sts := (runW h b.sts b.spawned as).sts } := ⟨let ⟨a, x, y⟩ := hb.kind; ⟨a, x, o.keys.trans y⟩, o.so, hb.sp0, hb.sp1⟩
  obtain ⟨a1, a2, a3⟩ := carryL_ok po (p := p) (runW h b.sts b.spawned as).dds hs hb2 o.dds lp hg
  have a1 := a1.up (show M + (runW h b.sts b.spawned as).dds.length ≤ M + 60 from by have := o.few; omega)
  have a2 := a2.up (show M + (runW h b.sts b.spawned as).dds.length ≤ M + 61 from by have := o.few; omega)
  exact a1.put (M := M + 60) ⟨a2.kind, a2.so, a2.sp0, a2.sp1⟩ (by omega)
theorem deliver_ok {prg : Prg} (po : PrgOk prg) {M : Nat} {s : Sta} {w : Wt} {i : Nat} (lM : M + 1 ≤ 100000000) (hs : StaOk prg M s) (hw : s.wt[i]? = some w) : StaOk prg (M + 62) (deliver prg s w i).1 := by
  have mw := hs.wts w (List.mem_of_getElem? hw)
  have h1 : StaOk prg M { s with wt := s.wt.eraseIdx i } := ⟨hs.bgs, hs.nd, fun x m => hs.wts x (List.mem_of_mem_eraseIdx m), hs.pns, ⟨hs.szs.b, by have := hs.szs.w; show (s.wt.eraseIdx i).length ≤ _; have := List.length_eraseIdx_le s.wt i; omega, hs.szs.p, hs.szs.g⟩⟩
  have d : StaOk prg (M + 62) { s with wt := s.wt.eraseIdx i } := h1.up (by omega)
  unfold deliver
  cases e : getB s.bgs w.path with
  | none => exact d
  | some b =>
    dsimp only
    by_cases on : b.mode = "on"
    · rw [if_pos on]
      cases e2 : handler prg b w.msg w.args.length with
      | none => exact d
      | some h =>
        obtain ⟨hb, lb⟩ := hs.bgs _ _ (getB_mem e)
        obtain ⟨hh, hl⟩ := handler_ok po hb e2
        have h2 : StaOk prg (M + 1) { s with wt := s.wt.eraseIdx i, bgs := putB s.bgs w.path b } := h1.put (hb.up (Nat.le_succ _)) (by omega)
        exact handle_ok po (M := M + 1) lM h2 (hb.up (Nat.le_succ _)) (by omega) (by show (getB (putB s.bgs w.path b) w.path).isSome = true; rw [getB_put, if_pos rfl]; rfl) hh hl.symm mw.2.2
    · rw [if_neg on]; exact d
end Rk
/-! retroact.machine: _deliver. -/
namespace Rk
open PySem PySem.Spec PyProof.Rows L2
theorem applyW_ok {prg : Prg} (po : PrgOk prg) {M : Nat} {s : Sta} {ev : Evt} {m : Int} (lM : M + 1 ≤ 100000000) (hs : StaOk prg M s) (eo : EvtOk ev) (hp : isPos prg s ev = true) : ∃ s2 td, applyW prg s m ev = some (s2, td) ∧ StaOk prg (M + 100) s2 := by
  cases ev with
  | input p x as =>
    refine ⟨_, _, rfl, ?_⟩
    have hi : isIn prg s p x as = true := hp
    unfold isIn at hi
    cases e : getB s.bgs p with
    | none => rw [e] at hi; cases hi
    | some b =>
      rw [e] at hi
      simp only [Bool.and_eq_true] at hi
      have ab : ∀ i ∈ as, Bv i := fun i m => of_decide_eq_true (List.all_eq_true.mp hi.2 i m)
      have lp := (hs.bgs _ _ (getB_mem e)).2
      exact (hs.addW (x := ⟨p, x, as, .input m⟩) (by show p.length ≤ _; omega) eo ab).up (by omega)
  | deliver i =>
    have hi : (decide (0 ≤ i) && decide (i < (s.wt.length : Int))) = true := hp
    simp only [Bool.and_eq_true, decide_eq_true_eq] at hi
    obtain ⟨w, hw⟩ : ∃ w, s.wt[i.toNat]? = some w := ⟨s.wt[i.toNat]'(by omega), List.getElem?_eq_getElem (by omega)⟩
    refine ⟨(deliver prg s w i.toNat).1, (deliver prg s w i.toNat).2, ?_, (deliver_ok po lM hs hw).up (by omega)⟩
    show (s.wt[i.toNat]?).map _ = _
    rw [hw]
    rfl
  | answer i v =>
    have hi : (decide (0 ≤ i) && decide (i < (s.pn.length : Int)) && decide (Bv v)) = true := hp
    simp only [Bool.and_eq_true, decide_eq_true_eq] at hi
    obtain ⟨k, hk⟩ : ∃ k, s.pn[i.toNat]? = some k := ⟨s.pn[i.toNat]'(by omega), List.getElem?_eq_getElem (by omega)⟩
    have h1 : StaOk prg M { s with pn := s.pn.eraseIdx i.toNat } := ⟨hs.bgs, hs.nd, hs.wts, fun x m => hs.pns x (List.mem_of_mem_eraseIdx m), ⟨hs.szs.b, hs.szs.w, by have := hs.szs.p; show (s.pn.eraseIdx i.toNat).length ≤ _; have := List.length_eraseIdx_le s.pn i.toNat; omega, hs.szs.g⟩⟩
    have lp := hs.pns k (List.mem_of_getElem? hk)
    refine ⟨_, _, by show (s.pn[i.toNat]?).map _ = _; rw [hk]; rfl, ?_⟩
    cases e : k.back with
    | none => exact h1.up (by omega)
    | some x => exact (h1.addW (x := ⟨k.path, x, [v], .answer k.path k.num⟩) (by show k.path.length ≤ _; omega) (by simp) (fun i m => by rw [List.mem_singleton.mp m]; exact hi.2)).up (by omega)
theorem firstSta_ok {prg : Prg} (po : PrgOk prg) {a : Act} (ha : actOf prg a.nam = some a) : StaOk prg 100 ⟨[([], bornA a.nam a [])], [], [], []⟩ :=
  ⟨fun q b m => by rw [List.mem_singleton] at m; cases m; exact ⟨born_ok (as := []) po ha (fun _ m => (nomatch m)) _, Nat.zero_le _⟩, by simp, fun _ m => (nomatch m), fun _ m => (nomatch m), ⟨by show 1 ≤ 100; decide, Nat.zero_le _, Nat.zero_le _, Nat.zero_le _⟩⟩
theorem map_erase {α β : Type} (f : α → β) : ∀ (l : List α) (i : Nat), (l.map f).eraseIdx i = (l.eraseIdx i).map f
  | [], i => rfl
  | a :: l, 0 => rfl
  | a :: l, i + 1 => by rw [List.map_cons, List.eraseIdx_cons_succ, List.eraseIdx_cons_succ, List.map_cons, map_erase f l i]
theorem Ks.set {R R' : Pth → V → Bg → Prop} {p : Pth} {c : Bg} (h1 : ∀ v b, R p v b → R' p v c) (h2 : ∀ q v b, q ≠ p → R q v b → R' q v b) : ∀ {kvs : List (List Key × V)} {bgs : List (Pth × Bg)}, Ks R kvs bgs → Ks R' kvs (bgs.map fun q => if q.1 = p then (q.1, c) else q)
  | [], [], _ => trivial
  | kv :: r, q :: t, ⟨a, h, k⟩ => by
    rw [List.map_cons]
    by_cases e : q.1 = p
    · rw [if_pos e]
      exact ⟨a, by show R' q.1 kv.2 c; rw [e]; rw [e] at h; exact h1 _ _ h, Ks.set h1 h2 k⟩
    · rw [if_neg e]
      exact ⟨a, h2 _ _ _ e h, Ks.set h1 h2 k⟩
  | [], _ :: _, q => q.elim
  | _ :: _, [], q => q.elim
theorem Ks.put2 {R R' : Pth → V → Bg → Prop} {p : Pth} {v : V} {c : Bg} (h1 : R' p v c) (h2 : ∀ q u b, q ≠ p → R q u b → R' q u b) {kvs : List (List Key × V)} {bgs : List (Pth × Bg)} (k : Ks R kvs bgs) : Ks R' (putK kvs (pK p) v) (putB bgs p c) := by
  have mp : ∀ {kvs : List (List Key × V)} {bgs : List (Pth × Bg)}, Ks R kvs bgs → Ks R' (kvs.map fun kv => if kv.1 = pK p then (kv.1, v) else kv) (bgs.map fun q => if q.1 = p then (q.1, c) else q) := by
    intro kvs
    induction kvs with
    | nil =>
      intro bgs k
      cases bgs with
      | nil => trivial
      | cons _ _ => exact k.elim
    | cons kv r ih =>
      intro bgs k
      cases bgs with
      | nil => exact k.elim
      | cons q t =>
        obtain ⟨a, h, k⟩ := k
        rw [List.map_cons, List.map_cons]
        by_cases e : q.1 = p
        · rw [if_pos (by rw [a, e]), if_pos e]
          exact ⟨a, by show R' q.1 v c; rw [e]; exact h1, ih k⟩
        · rw [if_neg (fun z => e (pK_inj (a.symm.trans z))), if_neg e]
          exact ⟨a, h2 _ _ _ e h, ih k⟩
  have ap : getB bgs p = .none → ∀ {kvs : List (List Key × V)} {bgs : List (Pth × Bg)}, getB bgs p = .none → Ks R kvs bgs → Ks R' (kvs ++ [(pK p, v)]) (bgs ++ [(p, c)]) := by
    intro _ kvs
    induction kvs with
    | nil =>
      intro bgs _ k
      cases bgs with
      | nil => exact ⟨rfl, h1, trivial⟩
      | cons _ _ => exact k.elim
    | cons kv r ih =>
      intro bgs n k
      cases bgs with
      | nil => exact k.elim
      | cons q t =>
        obtain ⟨a, h, k⟩ := k
        unfold getB at n
        rw [List.find?_cons] at n
        by_cases e : q.1 = p
        · simp [e] at n
        · simp only [e, decide_false] at n
          exact ⟨a, h2 _ _ _ e h, ih n k⟩
  unfold putK putB
  rw [valV_any, getB_any]
  cases e : getB bgs p with
  | none =>
    rw [k.none e]
    exact ap e e k
  | some b =>
    obtain ⟨u, e2, _⟩ := k.some e
    rw [e2]
    exact mp k
theorem oV_di {H : Hp} : ∀ w : Option Str, Di H (oV w) (oS w)
  | none => .non
  | some s => .str s
section
variable {K : PySem.W.Frag} {mg : Str → Option Value} {P : Program} {w : World} {base : Heap}
/-- the being at p is locked -/
theorem Wk.done {H : Hp} {p : Pth} {st B W N G r : Addr} {b : Bg} {s : Sta} (h : Wk K H p st B W N G r b s) (d : Dst st W N G r) (hg : (getB s.bgs p).isSome = true) :
    ∃ u, H r = some u ∧ Mut (some u) ∧ ∀ o, Kp (Lw B W N G r) H (upd H r (.frz o u)) ∧ StaOp K (upd H r (.frz o u)) (fun _ => BgAt K (upd H r (.frz o u))) st B W N G { s with bgs := putB s.bgs p b } := by
  obtain ⟨⟨⟨dx, e1⟩, ⟨kvs, e2, ks⟩, ⟨x1, e3, d1⟩, ⟨x2, e4, d2⟩, ⟨x3, e5, d3⟩⟩, ⟨dx2, D, od, e6, e7⟩⟩ := h
  refine ⟨_, e6, True.intro, fun o => ?_⟩
  have k : Kp (Lw B W N G r) H (upd H r (.frz o (.ins (He.ga K "Being") dx2 (bgF b D)))) := Kp.refl.wr (by simp) e6
  refine ⟨k, ⟨dx, (upd_ne d.sr).trans e1⟩, ⟨kvs, (upd_ne (ne_of e2 e6 fun z => nomatch z)).trans e2, ?_⟩, ⟨x1, (upd_ne (ne_of e3 e6 fun z => nomatch z)).trans e3, d1.mono k⟩, ⟨x2, (upd_ne (ne_of e4 e6 fun z => nomatch z)).trans e4, d2.mono k⟩, ⟨x3, (upd_ne (ne_of e5 e6 fun z => nomatch z)).trans e5, d3.mono k⟩⟩
  show Ks _ kvs (putB s.bgs p b)
  unfold putB
  rw [getB_any, hg, if_pos rfl]
  refine Ks.set (R := RK K H p r) (fun v c hc => ?_) (fun q v c ne hc => ?_) ks
  · rcases hc with ⟨_, rfl⟩ | ⟨z, _⟩
    · exact ⟨r, o, dx2, D, od, rfl, upd_same, k.frz _ _ _ e7⟩
    · exact absurd rfl z
  · rcases hc with ⟨z, _⟩ | ⟨_, bc⟩
    · exact absurd z ne
    · exact bc.mono k
def spDl (K : PySem.W.Frag) : Sp := fun vs H Q _ => ∃ v st i e prg s w M B W N G oe de, vs = [v, .ref st, .int i, .ref e] ∧ PrgAt K H v prg ∧ H e = some (.frz oe (.ins (He.ga K "Plain") de [])) ∧ StaOp K H (fun _ => BgAt K H) st B W N G s ∧ (W ≠ N ∧ W ≠ G ∧ N ≠ G) ∧
  0 ≤ i ∧ s.wt[i.toNat]? = some w ∧ PrgOk prg ∧ StaOk prg M s ∧ M ≤ 40000 ∧
  ∀ Ha td, Kp [B, W, N, G] H Ha → StaOp K Ha (fun _ => BgAt K Ha) st B W N G (deliver prg s w i.toNat).1 → Di Ha td (tdD (deliver prg s w i.toNat).2) → Q td Ha
theorem ok_deliver (T : Tx K mg) : FnOk P w K mg base (L2N.CX P w) 24 (He.ga K "_deliver") T.fd_deliver P_deliver (spDl K) := by
  refine T.D_deliver.ok sc_deliver (fun vs H Q E h => by obtain ⟨v, st, i, e, prg, s, w, M, B, W, N, G, oe, de, rfl, _⟩ := h; rfl) fun cdv A outer sh H vs Q E hr h => ⟨_, (pss_cons (ps_asg (pe_bm PySem.F.plainAttrs_list PySem.F.slot_list_pop PySem.F.type_list_pop mt_popAt (pe_fe T.c_State T.n_State_waiting (pv 1)) (pa_cons (pv 2) pa_nil)) (pg_tup rfl (pgs_cons (pg_name (i := 4) sc_deliver.nd rfl (.inl rfl)) (pgs_cons (pg_name (i := 5) sc_deliver.nd rfl (.inl rfl)) (pgs_cons (pg_name (i := 6) sc_deliver.nd rfl (.inl rfl)) (pgs_cons (pg_name (i := 7) sc_deliver.nd rfl (.inl rfl)) pgs_nil))))))
    (pss_cons (ps_if (PW.pt (pw_or (pt_cmp (pc_dnotin (hu_of hr) (pv 4) (pe_fe T.c_State T.n_State_beings (pv 1)))) (pw_or1 (pt_cmpR op_ne (pe_att T.c_Being T.n_Being_mode (pe_dget (hu_of hr) (pe_fe T.c_State T.n_State_beings (pv 1)) (pv 4) (fun _ _ => rfl))) pe_str (nomark _)))))
    (pss_one (ps_ret (pe_tup (pa_cons pe_str (pa_cons (pv 4) (pa_cons (pv 5) pa_nil))))))
    pss_nil)
    (pss_cons (ps_set (i := 8) sc_deliver.nd rfl (.inl rfl) (pe_callS (ok_copied T) (hr.mono (by decide)) rfl T.g__copied T.p_copied T.b_copied (fun σ => L2N.passAt (L2N.takes_of rfl rfl rfl rfl) σ) (pa_cons (pe_dget (hu_of hr) (pe_fe T.c_State T.n_State_beings (pv 1)) (pv 4) (fun _ _ => rfl)) pa_nil)))
    (pss_cons (ps_set (i := 9) sc_deliver.nd rfl (.inl rfl) (pe_callS (ok_handler_of T) (hr.mono (by decide)) rfl T.g__handler_of T.p_handler_of T.b_handler_of (fun σ => L2N.passAt (L2N.takes_of rfl rfl rfl rfl) σ) (pa_cons (pv 0) (pa_cons (pe_fe T.c_Being T.n_Being_kind (pv 8)) (pa_cons (pv 5) (pa_cons (pe_callB call_len_seq (by rfl) T.f_len (by decide +kernel) (pa_cons (pv 6) pa_nil)) pa_nil))))))
    (pss_cons (ps_if (pt_cmpR op_isN (pv 9) pe_non (nomark _))
    (pss_one (ps_ret (pe_tup (pa_cons pe_str (pa_cons (pv 4) (pa_cons (pv 5) pa_nil))))))
    pss_nil)
    (pss_cons (ps_set (i := 10) sc_deliver.nd rfl (.inl rfl) (pe_meR (pv 3) T.c_Plain T.m_Plain_run (ok_Plain_run T) hr T.b_Plain_run (fun σ => L2N.passAt (L2N.takes_of rfl rfl rfl rfl) σ) (pa_cons (pv 9) (pa_cons (pe_fe T.c_Being T.n_Being_states (pv 8)) (pa_cons (pe_fe T.c_Being T.n_Being_spawned (pv 8)) (pa_cons (pv 6) pa_nil))))))
    (pss_cons (ps_fe T.c_Being T.n_Being_states (pv 8) (pe_att T.c_Outcome T.n_Outcome_states (pv 10)))
    (pss_cons (ps_dput (hu_of hr) (pe_fe T.c_State T.n_State_beings (pv 1)) (pv 4) (pv 8) rfl)
    (pss_cons (ps_expr (pe_callS (ok_carry_out T) (hr.mono (by decide)) rfl T.g__carry_out T.p_carry_out T.b_carry_out (fun σ => L2N.passAt (L2N.takes_of rfl rfl rfl rfl) σ) (pa_cons (pv 0) (pa_cons (pv 1) (pa_cons (pv 4) (pa_cons (pe_att T.c_Outcome T.n_Outcome_deeds (pv 10)) (pa_cons (pv 3) pa_nil)))))))
    (pss_cons (ps_if (pt_cmpR op_ne (pe_att T.c_Outcome T.n_Outcome_kind (pv 10)) pe_str (nomark _))
    (pss_one (ps_fe T.c_Being T.n_Being_mode (pv 8) (pe_att T.c_Outcome T.n_Outcome_kind (pv 10))))
    pss_nil)
    (pss_one (ps_ret (pe_fz (pe_tup (pa_cons pe_str (pa_cons (pv 4) (pa_cons (pv 5) (pa_cons (pe_att T.c_Outcome T.n_Outcome_kind (pv 10)) (pa_cons (pe_att T.c_Outcome T.n_Outcome_reason (pv 10)) pa_nil))))))))))))))))))), ?_⟩
  obtain ⟨v, st, i, e, prg, s, x, M, B, W, N, G, oe, de, rfl, hp, ee, so, dst, i0, hx, po, ok, lM, q⟩ := h
  obtain ⟨dx0, es0⟩ := so.ins
  obtain ⟨xw, eW0, dw0⟩ := so.wt
  have lw : xw.length = s.wt.length := by rw [dw0.length, List.length_map]
  have il : i.toNat < s.wt.length := (List.getElem?_eq_some_iff.mp hx).1
  have szw := ok.szs.w
  obtain ⟨xv, hxv, dxv⟩ := dw0.at (d := wtD x) (i := i.toNat) (by rw [List.getElem?_map, hx]; rfl)
  refine ⟨_, rfl, st, dx0, _, _, rfl, es0, rfl, .inl ⟨rfl, _, SqL.of eW0⟩, _, rfl, W, xw, i, i.toNat, xv, rfl, rfl, eW0, by omega, by omega, ?_, hxv, ?_⟩
  · exact seqIndex_of i0 (by omega)
  -- the message is taken out
  have k1 : Kp [B, W, N, G] H (upd H W (.lst (xw.eraseIdx i.toNat))) := Kp.refl.wr (by simp) eW0
  have so1 : StaOp K (upd H W (.lst (xw.eraseIdx i.toNat))) (fun _ => BgAt K (upd H W (.lst (xw.eraseIdx i.toNat)))) st B W N G { s with wt := s.wt.eraseIdx i.toNat } := by
    obtain ⟨⟨dx, e1⟩, ⟨kvs, e2, ks⟩, _, ⟨x2, e4, d2⟩, ⟨x3, e5, d3⟩⟩ := so
    refine ⟨⟨dx, (upd_ne (ne_of e1 eW0 fun z => nomatch z)).trans e1⟩, ⟨kvs, (upd_ne (ne_of e2 eW0 fun z => nomatch z)).trans e2, ks.mono fun _ _ _ z => z.mono k1⟩, ⟨_, upd_same, ?_⟩, ⟨x2, (upd_ne (Ne.symm dst.1)).trans e4, d2.mono k1⟩, ⟨x3, (upd_ne (Ne.symm dst.2.1)).trans e5, d3.mono k1⟩⟩
    have := (dw0.mono k1).erase i.toNat
    rw [map_erase] at this
    exact this
  obtain ⟨px, v0, v1, v2, v3, rfl, epx, f0, f1, f2, f3⟩ := Di.inv4 (show Di H xv (.tuple [inD x.path, .str x.msg, inD x.args, ogD x.org]) from dxv)
  cases f1.inv_str
  obtain ⟨pa, rfl, epa⟩ := f0.inv_ints
  obtain ⟨aa, rfl, eaa⟩ := f2.inv_ints
  refine ⟨px, _, rfl, SqT.of (k1.tup _ _ epx), rfl, _, _, rfl, _, _, rfl, _, _, rfl, _, _, rfl, rfl, ?_⟩
  have hp1 := hp.mono k1
  have ee1 := k1.frz _ _ _ ee
  have epa1 := k1.tup _ _ epa
  have eaa1 := k1.tup _ _ eaa
  revert k1 so1 hp1 ee1 epa1 eaa1
  generalize (upd H W (.lst (xw.eraseIdx i.toNat))) = H1
  intro k1 so1 hp1 ee1 epa1 eaa1
  have epk1 : H1 pa = some (.tup ((pK x.path).map kV)) := by rw [pK_kV]; exact epa1
  obtain ⟨dx1, es1⟩ := so1.ins
  obtain ⟨kvs1, eB1, ks1⟩ := so1.bgs
  have get : DGet H1 B (.ref pa) (valV kvs1 (pK x.path)) := .inr ⟨kvs1, pK x.path, pa, .inl eB1, rfl, epk1, rfl⟩
  have drop : deliver prg s x i.toNat = ({ s with wt := s.wt.eraseIdx i.toNat }, .dropped x.path x.msg) → ∀ H9, Kp [] H1 H9 → ∀ t, H9 t = none → Q (.ref t) (upd H9 t (.tup [.str "dropped", .ref pa, .str x.msg])) := fun ed H9 k9 t nt => by
    have k2 : Kp [] H1 (upd H9 t (.tup [.str "dropped", .ref pa, .str x.msg])) := k9.new nt
    refine q _ _ (k1.then0 k2) ?_ ?_
    · rw [ed]; exact so1.keep k2 fun _ _ _ z => z.mono k2
    · rw [ed]; exact .tup upd_same (.cons (.str _) (.cons (.tup (k2.tup _ _ epa1) (Dl.ints _)) (.cons (.str _) .nil)))
  refine ⟨_, rfl, _, rfl, st, dx1, _, _, rfl, es1, rfl, B, valV kvs1 (pK x.path), rfl, get, ?_⟩
  cases eb : getB s.bgs x.path with
  | none =>
    rw [ks1.none eb]
    exact ⟨_, rfl, iT rfl (iT rfl ⟨_, rfl, _, rfl, by show 3 ≤ sizeLine; decide, drop (by unfold deliver; rw [eb]) H1 .refl⟩)⟩
  | some b =>
    obtain ⟨bv, ev, bat⟩ := ks1.some eb
    rw [ev] at get
    rw [ev]
    obtain ⟨bp, bo, bdx, D0, od0, rfl, ebp, eD0⟩ := id bat
    refine ⟨_, rfl, iF rfl ⟨_, rfl, st, dx1, _, _, rfl, es1, rfl, _, rfl, B, .ref bp, rfl, get, bp, bo, bdx, _, _, rfl, ebp, rfl, rfl, ?_⟩⟩
    rw [dS]
    by_cases on : b.mode = "on"
    · refine ⟨_, rfl, iF (by rw [decide_eq_true on]; rfl) ?_⟩
      obtain ⟨bok, lp⟩ := ok.bgs _ _ (getB_mem eb)
      obtain ⟨a, ha, kys⟩ := bok.kind
      refine ⟨_, rfl, st, dx1, _, _, rfl, es1, rfl, _, rfl, B, .ref bp, rfl, get, .ref bp, b, rfl, bat, bok.so, fun H2 r dxr D oz k2 nr er eD => ?_⟩
      have eaa2 := k2.tup _ _ eaa1
      refine ⟨_, rfl, _, rfl, r, dxr, _, _, rfl, er, rfl, _, rfl, _, rfl, aa, _, rfl, .inr (SqT.of eaa2), v, b.kind, x.msg, (x.args.map V.int).length, prg, a, rfl, hp1.mono k2, ha, fun u h eh dh => ?_, fun eh => ?_⟩
      · rw [List.length_map] at eh
        have ehn : handler prg b x.msg x.args.length = some h := by unfold handler; rw [ha]; exact eh
        obtain ⟨hg, hl⟩ := handler_ok po bok ehn
        obtain ⟨up, uxs, rfl, _, _⟩ := Di.inv_tup (show Di H2 u (.tuple [.str h.msg, .list (h.pars.map .str), .list (bdD h.body)]) from dh)
        have mx := ok.wts x (List.mem_of_getElem? hx)
        have rwo : RwOk h b.sts b.spawned x.args := ⟨bok.so, hl.symm, mx.2.2, bok.sp0, by have := bok.sp1; omega⟩
        have oo := runW_ok hg rwo
        refine ⟨_, rfl, rfl, _, rfl, iF rfl ⟨_, rfl, e, de, [], rfl, .inr ⟨oe, k2.frz _ _ _ ee1⟩, rfl, _, rfl, _, rfl, r, dxr, _, _, rfl, er, rfl, _, rfl, r, dxr, _, _, rfl, er, rfl, _, rfl, .ref e, .ref up, D, aa, h, b.sts, b.spawned, x.args, rfl, ⟨dh, ⟨oz, eD⟩, eaa2, hg.toHdOk, bok.so, hl.symm, mx.2.2, bok.sp0, by have := bok.sp1; omega⟩, fun H3 vo k3 oat => ?_⟩⟩
        have del : deliver prg s x i.toNat = handle prg { s with wt := s.wt.eraseIdx i.toNat, bgs := putB s.bgs x.path b } x.path x.msg x.args b h := by
          unfold deliver
          rw [eb]
          show (if b.mode = "on" then _ else _) = _
          rw [if_pos on, ehn]
        revert oo oat del
        unfold handle
        generalize runW h b.sts b.spawned x.args = o
        intro oo oat del
        obtain ⟨pO, oO, dxO, Do, odo, vl, rfl, eO, eDo, dds⟩ := oat
        have k23 : Kp [] H1 H3 := k2.trans k3
        have nrH1 : H1 r = none := nr
        have er3 := k3.same _ _ er
        refine ⟨_, rfl, pO, oO, dxO, _, _, rfl, eO, rfl, _, rfl, r, dxr, _, rfl, er3, (by decide : (6 : Nat) < 1000), ?_⟩
        have k4 : Kp [] H1 (upd H3 r (.ins (He.ga K "Being") dxr (bgF { b with sts := o.sts } Do))) := k23.own nrH1
        have k4b : Kp [r] H3 (upd H3 r (.ins (He.ga K "Being") dxr (bgF { b with sts := o.sts } Do))) := Kp.refl.wr (by simp) er3
        have er4 : (upd H3 r (.ins (He.ga K "Being") dxr (bgF { b with sts := o.sts } Do))) r = some (.ins (He.ga K "Being") dxr (bgF { b with sts := o.sts } Do)) := upd_same
        have eO4 := k4b.frz _ _ _ eO
        have eDo4 := k4b.frz _ _ _ eDo
        have dds4 := dds.mono k4b
        obtain ⟨H4, hH4⟩ : ∃ H4, upd H3 r (.ins (He.ga K "Being") dxr (putF "states" (.ref Do) (bgF b D))) = H4 := ⟨_, rfl⟩
        have eH4 : upd H3 r (.ins (He.ga K "Being") dxr (bgF { b with sts := o.sts } Do)) = H4 := hH4
        rw [eH4] at k4 k4b er4 eO4 eDo4 dds4
        rw [hH4]
        have so4 := so1.keep k4 fun _ _ _ z => BgAt.mono z k4
        obtain ⟨dx4, es4⟩ := so4.ins
        obtain ⟨kvs4, eB4, ks4⟩ := so4.bgs
        have epa4 := k4.tup _ _ epa1
        have epk4 : H4 pa = some (.tup ((pK x.path).map kV)) := by rw [pK_kV]; exact epa4
        have lb4 : kvs4.length = s.bgs.length := ks4.len
        have szb := ok.szs.b
        refine ⟨_, rfl, _, rfl, st, dx4, _, _, rfl, es4, rfl, _, rfl, B, _, rfl, DPut.t eB4 epk4 (by rw [lb4]; exact small' (by omega)), ?_⟩
        have hrs : st ≠ r := fun z => by have e9 := so1.ins; obtain ⟨dx9, e9⟩ := e9; rw [z, nrH1] at e9; cases e9
        have d5 : Dst st W N G r := ⟨hrs, dst.1, dst.2.1, dst.2.2⟩
        have k5 : Kp [B, W, N, G] H4 (upd H4 B (.dT (putK kvs4 (pK x.path) (.ref r)))) := Kp.refl.wr (by simp) eB4
        have wk5 : Wk K (upd H4 B (.dT (putK kvs4 (pK x.path) (.ref r)))) x.path st B W N G r { b with sts := o.sts } { s with wt := s.wt.eraseIdx i.toNat, bgs := putB s.bgs x.path b } := by
          obtain ⟨⟨dx, e1⟩, _, ⟨x1, e3, d1⟩, ⟨x2, e4, d2⟩, ⟨x3, e5, d3⟩⟩ := so4
          refine ⟨⟨⟨dx, (upd_ne (ne_of e1 eB4 fun z => nomatch z)).trans e1⟩, ⟨_, upd_same, ks4.put2 (.inl ⟨rfl, rfl⟩) fun q u c ne hc => .inr ⟨ne, BgAt.mono hc k5⟩⟩, ⟨x1, (upd_ne (ne_of e3 eB4 fun z => nomatch z)).trans e3, d1.mono k5⟩, ⟨x2, (upd_ne (ne_of e4 eB4 fun z => nomatch z)).trans e4, d2.mono k5⟩, ⟨x3, (upd_ne (ne_of e5 eB4 fun z => nomatch z)).trans e5, d3.mono k5⟩⟩, ⟨dxr, Do, odo, (upd_ne (ne_of er4 eB4 fun z => nomatch z)).trans er4, k5.frz _ _ _ eDo4⟩⟩
        have k15 : Kp [B, W, N, G] H1 (upd H4 B (.dT (putK kvs4 (pK x.path) (.ref r)))) := (k4.more fun _ m => nomatch m).trans k5
        have eO5 := k5.frz _ _ _ eO4
        have dds5 := dds4.mono k5
        revert k15 wk5 eO5 dds5
        generalize (upd H4 B (.dT (putK kvs4 (pK x.path) (.ref r)))) = H5
        intro wk5 k15 eO5 dds5
        have isS : (getB (putB s.bgs x.path b) x.path).isSome = true := by rw [getB_put, if_pos rfl]; rfl
        refine ⟨_, rfl, _, rfl, _, rfl, _, rfl, pO, oO, dxO, _, _, rfl, eO5, rfl, _, rfl, v, st, pa, vl, e, x.path, prg, o.dds, { b with sts := o.sts }, _, B, W, N, G, r, oe, de, rfl, hp1.mono k15, k15.tup _ _ epa1, dds5, k15.frz _ _ _ ee1, wk5, d5, isS, oo.dds, oo.few, ⟨?_, ?_, ?_, ?_⟩, by have := mx.1; omega, fun H6 k6 wk6 => ?_⟩
        · show (putB s.bgs x.path b).length ≤ _
          have := len_putB s.bgs x.path b
          omega
        · show (s.wt.eraseIdx i.toNat).length ≤ _
          have := List.length_eraseIdx_le s.wt i.toNat
          omega
        · show s.pn.length ≤ _
          have := ok.szs.p
          omega
        · show s.gn.length ≤ _
          have := ok.szs.g
          omega
        have cok := carryL_ok po (M := M + 1) (p := x.path) o.dds (b := { b with sts := o.sts }) (s := { s with wt := s.wt.eraseIdx i.toNat, bgs := putB s.bgs x.path b }) (StaOk.put (s := { s with wt := s.wt.eraseIdx i.toNat }) (M := M) ⟨ok.bgs, ok.nd, fun y m => ok.wts y (List.mem_of_mem_eraseIdx m), ok.pns, ⟨ok.szs.b, by have := List.length_eraseIdx_le s.wt i.toNat; show (s.wt.eraseIdx i.toNat).length ≤ _; omega, ok.szs.p, ok.szs.g⟩⟩ (bok.up (Nat.le_succ _)) (by omega)) ⟨⟨a, ha, oo.keys.trans kys⟩, oo.so, bok.sp0, by have := bok.sp1; show b.spawned ≤ _; omega⟩ oo.dds (by have := mx.1; omega) isS
        dsimp only at del
        revert wk6 cok del
        generalize carryL prg x.path o.dds { b with sts := o.sts } { s with wt := s.wt.eraseIdx i.toNat, bgs := putB s.bgs x.path b } = c
        intro del wk6 cok
        have k16 : Kp (Lw B W N G r) H1 H6 := (k15.more fun _ m => List.mem_append_left [r] m).trans k6
        have eO6 := k6.frz _ _ _ eO5
        have nrH : H r = none := k1.dom _ nrH1
        -- the end, the mode written
        have last : ∀ (H7 : Hp) (bF : Bg), Kp (Lw B W N G r) H6 H7 → Wk K H7 x.path st B W N G r bF c.2 → bF = { c.1 with mode := if o.kind = "done" then c.1.mode else o.kind } → ∀ t, H7 t = none → ∃ d u, (upd H7 t (.tup [.str "handled", .ref pa, .str x.msg, .str o.kind, oV o.why])) d = some u ∧ Mut (some u) ∧ ∀ od, Q (.ref t) (upd (upd H7 t (.tup [.str "handled", .ref pa, .str x.msg, .str o.kind, oV o.why])) d (.frz od u)) := by
          intro H7 bF k7 wk7 eF t nt
          have k8 : Kp [] H7 (upd H7 t (.tup [.str "handled", .ref pa, .str x.msg, .str o.kind, oV o.why])) := Kp.refl.new nt
          have wk8 := wk7.keep k8
          obtain ⟨u, eu, mu, fin⟩ := wk8.done d5 cok.2.2
          refine ⟨r, u, eu, mu, fun od => ?_⟩
          obtain ⟨k9, so9⟩ := fin od
          have kall : Kp (Lw B W N G r) H1 (upd (upd H7 t (.tup [.str "handled", .ref pa, .str x.msg, .str o.kind, oV o.why])) r (.frz od u)) := ((k16.trans k7).then0 k8).trans k9
          refine q _ _ (k1.sub kall fun y m => ?_) ?_ ?_
          · simp only [List.mem_cons, List.not_mem_nil, or_false] at m ⊢
            rcases m with rfl | rfl | rfl | rfl | rfl
            · exact .inl (.inl rfl)
            · exact .inl (.inr (.inl rfl))
            · exact .inl (.inr (.inr (.inl rfl)))
            · exact .inl (.inr (.inr (.inr rfl)))
            · exact .inr nrH
          · rw [del, ← eF]; exact so9
          · rw [del]
            exact .tup (k9.tup _ _ upd_same) (.cons (.str _) (.cons (.tup (kall.tup _ _ epa1) (Dl.ints _)) (.cons (.str _) (.cons (.str _) (.cons (oV_di _) .nil)))))
        refine ⟨_, rfl, pO, oO, dxO, _, _, rfl, eO6, rfl, rfl, _, rfl, ?_⟩
        rw [dS]
        by_cases dn : o.kind = "done"
        · refine iF (by rw [decide_eq_true dn]; rfl) ?_
          exact ⟨_, rfl, _, rfl, _, rfl, pO, oO, dxO, _, _, rfl, eO6, rfl, _, rfl, pO, oO, dxO, _, _, rfl, eO6, rfl, by show 5 ≤ sizeLine; decide, last H6 c.1 .refl wk6 (by rw [if_pos dn])⟩
        · refine iT (by rw [decide_eq_false dn]; rfl) ?_
          obtain ⟨dx6, D6, od6, er6, eD6⟩ := wk6.bng
          obtain ⟨k7, wk7⟩ := wk6.setB d5 er6 { c.1 with mode := o.kind } rfl
          have eO7 := k7.frz _ _ _ eO6
          exact ⟨_, rfl, pO, oO, dxO, _, _, rfl, eO6, rfl, _, rfl, r, dx6, _, rfl, er6, (by decide : (6 : Nat) < 1000), _, rfl, _, rfl, _, rfl, pO, oO, dxO, _, _, rfl, eO7, rfl, _, rfl, pO, oO, dxO, _, _, rfl, eO7, rfl, by show 5 ≤ sizeLine; decide, last _ { c.1 with mode := o.kind } k7 wk7 (by rw [if_neg dn])⟩
      · rw [List.length_map] at eh
        have ehn : handler prg b x.msg x.args.length = none := by unfold handler; rw [ha]; exact eh
        refine ⟨_, rfl, rfl, _, rfl, iT rfl ⟨_, rfl, _, rfl, by show 3 ≤ sizeLine; decide, drop ?_ H2 k2⟩⟩
        unfold deliver
        rw [eb]
        show (if b.mode = "on" then _ else _) = _
        rw [if_pos on, ehn]
    · refine ⟨_, rfl, iT (by rw [decide_eq_false on]; rfl) ⟨_, rfl, _, rfl, by show 3 ≤ sizeLine; decide, drop ?_ H1 .refl⟩⟩
      unfold deliver
      rw [eb]
      show (if b.mode = "on" then _ else _) = _
      rw [if_neg on]
end
end Rk
/-! retroact.machine: apply. -/
namespace Rk
open PySem PySem.Spec PyProof.Rows L2
theorem nodup_pK : ∀ {l : List Pth}, l.Nodup → (l.map pK).Nodup
  | [], _ => .nil
  | p :: l, h => by
    rw [List.map_cons]
    rw [List.nodup_cons] at h ⊢
    exact ⟨fun m => by obtain ⟨q, hq, e⟩ := List.mem_map.mp m; exact h.1 (pK_inj e ▸ hq), nodup_pK h.2⟩
theorem Ks.nd {R : Pth → V → Bg → Prop} {kvs : List (List Key × V)} {bgs : List (Pth × Bg)} (k : Ks R kvs bgs) (h : (bgs.map (·.1)).Nodup) : (kvs.map (·.1)).Nodup := by
  rw [k.keys]
  have := nodup_pK h
  rw [List.map_map] at this
  exact this
section
variable {K : PySem.W.Frag} {mg : Str → Option Value} {P : Program} {w : World} {base : Heap}
theorem StaOp.lock {H H0 : Hp} {p D l1 l2 l3 : Addr} {s : Sta} {Q : VK} {z : V} (so : StaOp K H (fun _ => BgAt K H) p D l1 l2 l3 s) (k : Kp [] H0 H)
    (nn : H0 p = none ∧ H0 D = none ∧ H0 l1 = none ∧ H0 l2 = none ∧ H0 l3 = none) (dst : l1 ≠ l2 ∧ l1 ≠ l3 ∧ l2 ≠ l3) (q : ∀ Ha, Kp [] H0 Ha → Kp [p, D, l1, l2, l3] H Ha → StaAt K Ha (.ref p) s → Q z Ha) :
    ∃ d u, H d = some u ∧ Mut (some u) ∧ ∀ od, ∃ d2 u2, (upd H d (.frz od u)) d2 = some u2 ∧ Mut (some u2) ∧ ∀ od2, ∃ d3 u3, (upd (upd H d (.frz od u)) d2 (.frz od2 u2)) d3 = some u3 ∧ Mut (some u3) ∧ ∀ od3, ∃ d4 u4, (upd (upd (upd H d (.frz od u)) d2 (.frz od2 u2)) d3 (.frz od3 u3)) d4 = some u4 ∧ Mut (some u4) ∧ ∀ od4, ∃ d5 u5, (upd (upd (upd (upd H d (.frz od u)) d2 (.frz od2 u2)) d3 (.frz od3 u3)) d4 (.frz od4 u4)) d5 = some u5 ∧ Mut (some u5) ∧ ∀ od5, Q z (upd (upd (upd (upd (upd H d (.frz od u)) d2 (.frz od2 u2)) d3 (.frz od3 u3)) d4 (.frz od4 u4)) d5 (.frz od5 u5)) := by
  obtain ⟨⟨dx, e0⟩, ⟨kvs, eD, ks⟩, ⟨x1, e1, d1⟩, ⟨x2, e2, d2⟩, ⟨x3, e3, d3⟩⟩ := so
  obtain ⟨n0, nD, n1, n2, n3⟩ := nn
  obtain ⟨h12, h13, h23⟩ := dst
  exact lock5 (Q := fun _ H => Q z H) (L := []) k e0 eD e1 e2 e3 n0 nD n1 n2 n3 h12 h13 h23 ks d1 d2 d3 q
theorem StaOp.addW {H : Hp} {st B W N G : Addr} {s : Sta} (so : StaOp K H (fun _ => BgAt K H) st B W N G s) (d : W ≠ N ∧ W ≠ G ∧ N ≠ G) {xs : List V} (e : H W = some (.lst xs)) {v : V} {x : Wt} (dv : Di H v (wtD x)) :
    Kp [B, W, N, G] H (upd H W (.lst (xs ++ [v]))) ∧ StaOp K (upd H W (.lst (xs ++ [v]))) (fun _ => BgAt K (upd H W (.lst (xs ++ [v])))) st B W N G { s with wt := s.wt ++ [x] } := by
  have k : Kp [B, W, N, G] H (upd H W (.lst (xs ++ [v]))) := Kp.refl.wr (by simp) e
  obtain ⟨⟨dx, e1⟩, ⟨kvs, e2, ks⟩, ⟨x1, e3, d1⟩, ⟨x2, e4, d2⟩, ⟨x3, e5, d3⟩⟩ := so
  rw [e] at e3
  cases e3
  refine ⟨k, ⟨dx, (upd_ne (ne_of e1 e fun z => nomatch z)).trans e1⟩, ⟨kvs, (upd_ne (ne_of e2 e fun z => nomatch z)).trans e2, ks.mono fun _ _ _ z => BgAt.mono z k⟩, ⟨_, upd_same, ?_⟩, ⟨x2, (upd_ne (Ne.symm d.1)).trans e4, d2.mono k⟩, ⟨x3, (upd_ne (Ne.symm d.2.1)).trans e5, d3.mono k⟩⟩
  rw [List.map_append]
  exact (d1.mono k).append (.cons (dv.mono k) .nil)
theorem StaOp.popN {H : Hp} {st B W N G : Addr} {s : Sta} (so : StaOp K H (fun _ => BgAt K H) st B W N G s) (d : W ≠ N ∧ W ≠ G ∧ N ≠ G) {xs : List V} (e : H N = some (.lst xs)) (i : Nat) :
    Kp [B, W, N, G] H (upd H N (.lst (xs.eraseIdx i))) ∧ StaOp K (upd H N (.lst (xs.eraseIdx i))) (fun _ => BgAt K (upd H N (.lst (xs.eraseIdx i)))) st B W N G { s with pn := s.pn.eraseIdx i } := by
  have k : Kp [B, W, N, G] H (upd H N (.lst (xs.eraseIdx i))) := Kp.refl.wr (by simp) e
  obtain ⟨⟨dx, e1⟩, ⟨kvs, e2, ks⟩, ⟨x1, e3, d1⟩, ⟨x2, e4, d2⟩, ⟨x3, e5, d3⟩⟩ := so
  rw [e] at e4
  cases e4
  refine ⟨k, ⟨dx, (upd_ne (ne_of e1 e fun z => nomatch z)).trans e1⟩, ⟨kvs, (upd_ne (ne_of e2 e fun z => nomatch z)).trans e2, ks.mono fun _ _ _ z => BgAt.mono z k⟩, ⟨x1, (upd_ne d.1).trans e3, d1.mono k⟩, ⟨_, upd_same, ?_⟩, ⟨x3, (upd_ne (Ne.symm d.2.2)).trans e5, d3.mono k⟩⟩
  have := (d2.mono k).erase i
  rw [map_erase] at this
  exact this
def spAw (K : PySem.W.Frag) : Sp := fun vs H Q _ => ∃ v sv evv m e prg s ev M oe de, vs = [v, sv, evv, .int m, .ref e] ∧ PrgAt K H v prg ∧ StaAt K H sv s ∧ Di H evv (evD ev) ∧ H e = some (.frz oe (.ins (He.ga K "Plain") de [])) ∧ PrgOk prg ∧ StaOk prg M s ∧ M ≤ 40000 ∧ EvtOk ev ∧ isPos prg s ev = true ∧
  ∀ Ha t u tv s2 td, Kp [] H Ha → applyW prg s m ev = some (s2, td) → Ha t = some (.tup [u, tv]) → StaAt K Ha u s2 → Di Ha tv (tdD td) → Q (.ref t) Ha
theorem ok_apply_with (T : Tx K mg) : FnOk P w K mg base (L2N.CX P w) 25 (He.ga K "apply_with") T.fd_apply_with P_apply_with (spAw K) := by
  refine T.D_apply_with.ok sc_apply_with (fun vs H Q E h => by obtain ⟨v, sv, evv, m, e, prg, s, ev, M, oe, de, rfl, _⟩ := h; rfl) fun cdv A outer sh H vs Q E hr h => ⟨_, (pss_cons (ps_set (i := 5) sc_apply_with.nd rfl (.inl rfl) (pe_make T.k_State (ok_State_init T) (hr.mono (by decide)) rfl T.g_State T.b_State_init .nil pass0 (pa_cons (pe_att T.c_State T.n_State_beings (pv 1)) (pa_cons (pe_att T.c_State T.n_State_waiting (pv 1)) (pa_cons (pe_att T.c_State T.n_State_pending (pv 1)) (pa_cons (pe_att T.c_State T.n_State_gone (pv 1)) pa_nil))))))
    (pss_cons (ps_if (pt_cmpR op_eq (pe_ti (pv 2)) pe_str (nomark _))
    (pss_cons (ps_expr (pe_bm PySem.F.plainAttrs_list PySem.F.slot_list_append PySem.F.type_list_append mt_append (pe_fe T.c_State T.n_State_waiting (pv 5)) (pa_cons (pe_tup (pa_cons (pe_ti (pv 2)) (pa_cons (pe_ti (pv 2)) (pa_cons (pe_callTy call_tuple_of (by rfl) T.f_tuple (by decide +kernel) (pa_cons (pe_ti (pv 2)) pa_nil)) (pa_cons (pe_tup (pa_cons pe_str (pa_cons (pv 3) pa_nil))) pa_nil))))) pa_nil)))
    (pss_one (ps_ret (pe_fz (pe_fz (pe_fz (pe_fz (pe_fz (pe_tup (pa_cons (pv 5) (pa_cons (pe_tup (pa_cons pe_str (pa_cons (pe_ti (pv 2)) (pa_cons (pe_ti (pv 2)) pa_nil)))) pa_nil)))))))))))
    pss_nil)
    (pss_cons (ps_if (pt_cmpR op_eq (pe_ti (pv 2)) pe_str (nomark _))
    (pss_cons (ps_set (i := 6) sc_apply_with.nd rfl (.inl rfl) (pe_callS (ok_deliver T) hr rfl T.g__deliver T.p_deliver T.b_deliver (fun σ => L2N.passAt (L2N.takes_of rfl rfl rfl rfl) σ) (pa_cons (pv 0) (pa_cons (pv 5) (pa_cons (pe_ti (pv 2)) (pa_cons (pv 4) pa_nil))))))
    (pss_one (ps_ret (pe_fz (pe_fz (pe_fz (pe_fz (pe_fz (pe_tup (pa_cons (pv 5) (pa_cons (pv 6) pa_nil)))))))))))
    pss_nil)
    (pss_cons (ps_asg (pe_bm PySem.F.plainAttrs_list PySem.F.slot_list_pop PySem.F.type_list_pop mt_popAt (pe_fe T.c_State T.n_State_pending (pv 5)) (pa_cons (pe_ti (pv 2)) pa_nil)) (pg_tup rfl (pgs_cons (pg_name (i := 7) sc_apply_with.nd rfl (.inl rfl)) (pgs_cons (pg_name (i := 8) sc_apply_with.nd rfl (.inl rfl)) (pgs_cons (pg_name (i := 8) sc_apply_with.nd rfl (.inl rfl)) (pgs_cons (pg_name (i := 9) sc_apply_with.nd rfl (.inl rfl)) pgs_nil))))))
    (pss_cons (ps_if (pt_cmpR op_notN (pv 9) pe_non (nomark _))
    (pss_one (ps_expr (pe_bm PySem.F.plainAttrs_list PySem.F.slot_list_append PySem.F.type_list_append mt_append (pe_fe T.c_State T.n_State_waiting (pv 5)) (pa_cons (pe_tup (pa_cons (pe_ti (pv 7)) (pa_cons (pv 9) (pa_cons (pe_tup (pa_cons (pe_ti (pv 2)) pa_nil)) (pa_cons (pe_tup (pa_cons pe_str (pa_cons (pv 7) pa_nil))) pa_nil))))) pa_nil))))
    pss_nil)
    (pss_one (ps_ret (pe_fz (pe_fz (pe_fz (pe_fz (pe_fz (pe_tup (pa_cons (pv 5) (pa_cons (pe_tup (pa_cons pe_str (pa_cons (pv 7) pa_nil))) pa_nil))))))))))))))), ?_⟩
  obtain ⟨v, sv, evv, m, e, prg, s, ev, M, oe, de, rfl, hp, hs, dev, ee, po, ok, lM, eo, pos, q⟩ := h
  obtain ⟨ps, os, dx, B0, ob, kvs, vw, vp, vg, rfl, es, eB, ks, d1, d2, d3⟩ := hs
  obtain ⟨a1, o1, x1, rfl, e1, dl1⟩ := d1.inv_lst
  obtain ⟨a2, o2, x2, rfl, e2, dl2⟩ := d2.inv_lst
  obtain ⟨a3, o3, x3, rfl, e3, dl3⟩ := d3.inv_lst
  have szb := ok.szs.b
  have szw := ok.szs.w
  have szp := ok.szs.p
  refine ⟨_, rfl, ps, os, dx, _, _, rfl, es, rfl, _, rfl, ps, os, dx, _, _, rfl, es, rfl, _, rfl, ps, os, dx, _, _, rfl, es, rfl, _, rfl, ps, os, dx, _, _, rfl, es, rfl, fun o dxo no ndx ne => ?_⟩
  have k0 : Kp [] H (upd (upd H dxo (.own o)) o (.ins (He.ga K "State") dxo [])) := (Kp.refl.new ndx).own no
  refine ⟨o, dxo, B0, ob, kvs, a1, a2, a3, x1, x2, x3, rfl, upd_same, k0.frz _ _ _ eB, ks.nd ok.nd, by rw [ks.len]; omega, fun Ha ka => ⟨.inl (.inr ⟨o1, ka.frz _ _ _ (k0.frz _ _ _ e1)⟩), .inl (.inr ⟨o2, ka.frz _ _ _ (k0.frz _ _ _ e2)⟩), .inl (.inr ⟨o3, ka.frz _ _ _ (k0.frz _ _ _ e3)⟩)⟩, fun H1 B W N G k1 g0 gB gW gN gG nB nW nN nG _ dst => ⟨rfl, ?_⟩⟩
  have k2 : Kp [] H H1 := k0.sub k1 fun a m => .inr (by rw [List.mem_singleton.mp m]; exact no)
  have nn : H o = none ∧ H B = none ∧ H W = none ∧ H N = none ∧ H G = none := ⟨no, k0.dom _ nB, k0.dom _ nW, k0.dom _ nN, k0.dom _ nG⟩
  have so : StaOp K H1 (fun _ => BgAt K H1) o B W N G s := ⟨⟨dxo, g0⟩, ⟨kvs, gB, ks.mono fun _ _ _ z => BgAt.mono z k2⟩, ⟨x1, gW, dl1.mono k2⟩, ⟨x2, gN, dl2.mono k2⟩, ⟨x3, gG, dl3.mono k2⟩⟩
  have fresh : ∀ {Ha : Hp}, Kp [B, W, N, G] H1 Ha → Kp [] H Ha := fun ka => k2.sub ka fun a m => by
    simp only [List.mem_cons, List.not_mem_nil, or_false] at m
    rcases m with rfl | rfl | rfl | rfl
    · exact .inr nn.2.1
    · exact .inr nn.2.2.1
    · exact .inr nn.2.2.2.1
    · exact .inr nn.2.2.2.2
  have lx1 : x1.length = s.wt.length := by rw [dl1.length, List.length_map]
  have lx2 : x2.length = s.pn.length := by rw [dl2.length, List.length_map]
  have last : ∀ (H9 : Hp) (tv : V) (td : Td) (s2 : Sta), Kp [B, W, N, G] H1 H9 → StaOp K H9 (fun _ => BgAt K H9) o B W N G s2 → Di H9 tv (tdD td) → applyW prg s m ev = some (s2, td) → ∀ t, H9 t = none →
      ∃ d u, (upd H9 t (.tup [.ref o, tv])) d = some u ∧ Mut (some u) ∧ ∀ od, ∃ d2 u2, (upd (upd H9 t (.tup [.ref o, tv])) d (.frz od u)) d2 = some u2 ∧ Mut (some u2) ∧ ∀ od2, ∃ d3 u3, (upd (upd (upd H9 t (.tup [.ref o, tv])) d (.frz od u)) d2 (.frz od2 u2)) d3 = some u3 ∧ Mut (some u3) ∧ ∀ od3, ∃ d4 u4, (upd (upd (upd (upd H9 t (.tup [.ref o, tv])) d (.frz od u)) d2 (.frz od2 u2)) d3 (.frz od3 u3)) d4 = some u4 ∧ Mut (some u4) ∧ ∀ od4, ∃ d5 u5, (upd (upd (upd (upd (upd H9 t (.tup [.ref o, tv])) d (.frz od u)) d2 (.frz od2 u2)) d3 (.frz od3 u3)) d4 (.frz od4 u4)) d5 = some u5 ∧ Mut (some u5) ∧ ∀ od5, Q (.ref t) (upd (upd (upd (upd (upd (upd H9 t (.tup [.ref o, tv])) d (.frz od u)) d2 (.frz od2 u2)) d3 (.frz od3 u3)) d4 (.frz od4 u4)) d5 (.frz od5 u5)) := by
    intro H9 tv td s2 k9 so9 dtv ea t nt
    have kt : Kp [] H9 (upd H9 t (.tup [.ref o, tv])) := Kp.refl.new nt
    exact StaOp.lock (Q := Q) (z := .ref t) (so9.keep kt fun _ _ _ z => BgAt.mono z kt) ((fresh k9).trans kt) nn dst fun Ha ka kb sa => q Ha t (.ref o) tv s2 td ka ea (kb.tup _ _ upd_same) sa ((dtv.mono kt).mono kb)
  cases ev with
  | input p x as =>
    obtain ⟨pe, v0, v1, v2, v3, rfl, epe, f0, f1, f2, f3⟩ := Di.inv4 (show Di H evv (.tuple [.str "input", inD p, .str x, inD as]) from dev)
    cases f0.inv_str
    cases f2.inv_str
    obtain ⟨ap, rfl, eap⟩ := f1.inv_ints
    obtain ⟨aa, rfl, eaa⟩ := f3.inv_ints
    have epe1 := k2.tup _ _ epe
    have eap1 := k2.tup _ _ eap
    have eaa1 := k2.tup _ _ eaa
    refine ⟨_, rfl, pe, _, _, rfl, epe1, rfl, rfl, _, rfl, iT rfl ⟨_, rfl, o, dxo, _, _, rfl, g0, rfl, .inl ⟨rfl, _, SqL.of gW⟩, _, rfl, pe, _, _, rfl, epe1, rfl, _, rfl, pe, _, _, rfl, epe1, rfl, _, rfl, pe, _, _, rfl, epe1, rfl, aa, _, rfl, .inr ⟨SqT.of eaa1, _, rfl, by show 2 ≤ sizeLine; decide, fun t1 nt1 => ⟨by show 4 ≤ sizeLine; decide, fun t2 nt2 => ?_⟩⟩⟩⟩
    have kc : Kp [] H1 (upd (upd H1 t1 (.tup [.str "input", .int m])) t2 (.tup [.ref ap, .str x, .ref aa, .ref t1])) := (Kp.refl.new nt1).new nt2
    have dv : Di (upd (upd H1 t1 (.tup [.str "input", .int m])) t2 (.tup [.ref ap, .str x, .ref aa, .ref t1])) (.ref t2) (wtD ⟨p, x, as, .input m⟩) :=
      .tup upd_same (.cons (.tup (kc.tup _ _ eap1) (Dl.ints p)) (.cons (.str x) (.cons (.tup (kc.tup _ _ eaa1) (Dl.ints as)) (.cons (.tup ((upd_ne (ne_of_none upd_same nt2)).trans upd_same) (.cons (.str _) (.cons (.int _) .nil))) .nil))))
    have gW2 := kc.same _ _ gW
    obtain ⟨k4, so4⟩ := (so.keep kc fun _ _ _ z => BgAt.mono z kc).addW dst gW2 dv
    refine ⟨W, x1, _, rfl, rfl, gW2, by rw [lx1]; exact small' (by omega), ?_⟩
    have k14 := (kc.more fun _ m => nomatch m).trans k4
    revert k14 so4
    generalize (upd (upd (upd H1 t1 (.tup [.str "input", .int m])) t2 (.tup [.ref ap, .str x, .ref aa, .ref t1])) W (.lst (x1 ++ [.ref t2]))) = H4
    intro so4 k14
    have epe4 := k14.tup _ _ epe1
    refine ⟨_, rfl, _, rfl, pe, _, _, rfl, epe4, rfl, _, rfl, pe, _, _, rfl, epe4, rfl, by show 3 ≤ sizeLine; decide, fun t3 nt3 => ⟨by show 2 ≤ sizeLine; decide, fun t4 nt4 => ?_⟩⟩
    have k5 : Kp [] H4 (upd H4 t3 (.tup [.str "input", .ref ap, .str x])) := Kp.refl.new nt3
    exact last _ (.ref t3) (.input p x) _ (k14.then0 k5) (so4.keep k5 fun _ _ _ z => BgAt.mono z k5) (.tup upd_same (.cons (.str _) (.cons (.tup (k5.tup _ _ (k14.tup _ _ eap1)) (Dl.ints p)) (.cons (.str x) .nil)))) rfl t4 nt4
  | deliver i =>
    obtain ⟨pe, v0, v1, rfl, epe, f0, f1⟩ := Di.inv2 (show Di H evv (.tuple [.str "deliver", .int i]) from dev)
    cases f0.inv_str
    cases f1.inv_int
    have hi : (decide (0 ≤ i) && decide (i < (s.wt.length : Int))) = true := pos
    simp only [Bool.and_eq_true, decide_eq_true_eq] at hi
    obtain ⟨x, hx⟩ : ∃ w, s.wt[i.toNat]? = some w := ⟨s.wt[i.toNat]'(by omega), List.getElem?_eq_getElem (by omega)⟩
    have epe1 := k2.tup _ _ epe
    have eapp : applyW prg s m (.deliver i) = some ((deliver prg s x i.toNat).1, (deliver prg s x i.toNat).2) := by
      show (s.wt[i.toNat]?).map _ = _
      rw [hx]; rfl
    refine ⟨_, rfl, pe, _, _, rfl, epe1, rfl, rfl, _, rfl, iF rfl ⟨_, rfl, pe, _, _, rfl, epe1, rfl, rfl, _, rfl, iT rfl ⟨_, rfl, _, rfl, _, rfl, pe, _, _, rfl, epe1, rfl, _, rfl, v, o, i, e, prg, s, x, M, B, W, N, G, oe, de, rfl, hp.mono k2, k2.frz _ _ _ ee, so, dst, hi.1, hx, po, ok, lM, fun H3 tv k3 so3 dtv => ?_⟩⟩⟩
    exact ⟨_, rfl, _, rfl, by show 2 ≤ sizeLine; decide, last H3 tv _ _ k3 so3 dtv eapp⟩
  | answer i j =>
    obtain ⟨pe, v0, v1, v2, rfl, epe, f0, f1, f2⟩ := Di.inv3 (show Di H evv (.tuple [.str "answer", .int i, .int j]) from dev)
    cases f0.inv_str
    cases f1.inv_int
    cases f2.inv_int
    have hi : (decide (0 ≤ i) && decide (i < (s.pn.length : Int)) && decide (Bv j)) = true := pos
    simp only [Bool.and_eq_true, decide_eq_true_eq] at hi
    obtain ⟨⟨i0, i1⟩, bj⟩ := hi
    obtain ⟨kk, hk⟩ : ∃ w, s.pn[i.toNat]? = some w := ⟨s.pn[i.toNat]'(by omega), List.getElem?_eq_getElem (by omega)⟩
    have epe1 := k2.tup _ _ epe
    obtain ⟨xv, hxv, dxv⟩ := dl2.at (d := pnD kk) (i := i.toNat) (by rw [List.getElem?_map, hk]; rfl)
    obtain ⟨pk, u0, u1, u2, u3, rfl, epk, g0', g1', g2', g3'⟩ := Di.inv4 (show Di H xv (.tuple [keyD kk.path kk.num, .str kk.eff, inD kk.args, oS kk.back]) from dxv)
    obtain ⟨py, y0, y1, rfl, epy, h0', h1'⟩ := Di.inv2 (show Di H u0 (.tuple [inD kk.path, .int kk.num]) from g0')
    cases h1'.inv_int
    obtain ⟨ap, rfl, eap⟩ := h0'.inv_ints
    refine ⟨_, rfl, pe, _, _, rfl, epe1, rfl, rfl, _, rfl, iF rfl ⟨_, rfl, pe, _, _, rfl, epe1, rfl, rfl, _, rfl, iF rfl ⟨_, rfl, o, dxo, _, _, rfl, g0, rfl, .inl ⟨rfl, _, SqL.of gN⟩, _, rfl, pe, _, _, rfl, epe1, rfl, N, x2, i, i.toNat, .ref pk, rfl, rfl, gN, by omega, by omega, seqIndex_of i0 (by omega), hxv, ?_⟩⟩⟩
    obtain ⟨k4, so4⟩ := so.popN dst gN i.toNat
    have gW4 : (upd H1 N (.lst (x2.eraseIdx i.toNat))) W = some (.lst x1) := (upd_ne dst.1).trans gW
    have g04 : (upd H1 N (.lst (x2.eraseIdx i.toNat))) o = some (.ins (He.ga K "State") dxo (staF B (.ref W) (.ref N) (.ref G))) := (upd_ne (ne_of g0 gN fun z => nomatch z)).trans g0
    revert k4 so4 gW4 g04
    generalize (upd H1 N (.lst (x2.eraseIdx i.toNat))) = H4
    intro k4 so4 gW4 g04
    have k24 := fresh k4
    have epk4 := k24.tup _ _ epk
    have epy4 := k24.tup _ _ epy
    have epe4 := k24.tup _ _ epe
    have key4 : ∀ {Hz : Hp}, Kp [] H Hz → Di Hz (.ref py) (keyD kk.path kk.num) := fun kz => .tup (kz.tup _ _ epy) (.cons (.tup (kz.tup _ _ eap) (Dl.ints _)) (.cons (.int _) .nil))
    refine ⟨pk, _, rfl, SqT.of epk4, rfl, _, _, rfl, _, _, rfl, _, _, rfl, _, _, rfl, rfl, ?_⟩
    -- what comes last
    have fin : ∀ (H5 : Hp) (s2 : Sta), Kp [B, W, N, G] H1 H5 → StaOp K H5 (fun _ => BgAt K H5) o B W N G s2 → applyW prg s m (.answer i j) = some (s2, .answered kk.path kk.num) → ∀ t3, H5 t3 = none → ∀ t4, (upd H5 t3 (.tup [.str "answered", .ref py])) t4 = none → _ := fun H5 s2 k5 so5 ea t3 nt3 t4 nt4 => by
      have k6 : Kp [] H5 (upd H5 t3 (.tup [.str "answered", .ref py])) := Kp.refl.new nt3
      exact last (upd H5 t3 (.tup [.str "answered", .ref py])) (.ref t3) (.answered kk.path kk.num) s2 (k5.then0 k6) (so5.keep k6 fun _ _ _ z => BgAt.mono z k6) (.tup upd_same (.cons (.str _) (.cons (key4 ((fresh k5).trans k6)) .nil))) ea t4 nt4
    cases hb : kk.back with
    | none =>
      rw [hb] at g3'
      cases g3'.inv_none
      have ea : applyW prg s m (.answer i j) = some ({ s with pn := s.pn.eraseIdx i.toNat }, .answered kk.path kk.num) := by
        show (s.pn[i.toNat]?).map _ = _
        rw [hk]
        show some (({ s with pn := s.pn.eraseIdx i.toNat, wt := match kk.back with | some x => _ | none => s.wt } : Sta), _) = _
        rw [hb]
      exact ⟨_, rfl, rfl, _, rfl, iF rfl ⟨_, rfl, _, rfl, by show 2 ≤ sizeLine; decide, fun t3 nt3 => ⟨by show 2 ≤ sizeLine; decide, fin H4 _ k4 so4 ea t3 nt3⟩⟩⟩
    | some x =>
      rw [hb] at g3'
      cases g3'.inv_str
      have ea : applyW prg s m (.answer i j) = some ({ s with pn := s.pn.eraseIdx i.toNat, wt := s.wt ++ [⟨kk.path, x, [j], .answer kk.path kk.num⟩] }, .answered kk.path kk.num) := by
        show (s.pn[i.toNat]?).map _ = _
        rw [hk]
        show some (({ s with pn := s.pn.eraseIdx i.toNat, wt := match kk.back with | some x => s.wt ++ [⟨kk.path, x, [j], .answer kk.path kk.num⟩] | none => s.wt } : Sta), _) = _
        rw [hb]
      refine ⟨_, rfl, rfl, _, rfl, iT rfl ⟨_, rfl, o, dxo, _, _, rfl, g04, rfl, .inl ⟨rfl, _, SqL.of gW4⟩, _, rfl, py, _, _, rfl, epy4, rfl, _, rfl, _, rfl, pe, _, _, rfl, epe4, rfl, by show 1 ≤ sizeLine; decide, fun t1 nt1 => ⟨_, rfl, by show 2 ≤ sizeLine; decide, fun t2 nt2 => ⟨by show 4 ≤ sizeLine; decide, fun t3 nt3 => ?_⟩⟩⟩⟩
      have kc : Kp [] H4 (upd (upd (upd H4 t1 (.tup [.int j])) t2 (.tup [.str "answer", .ref py])) t3 (.tup [.ref ap, .str x, .ref t1, .ref t2])) := ((Kp.refl.new nt1).new nt2).new nt3
      have et2 : (upd (upd (upd H4 t1 (.tup [.int j])) t2 (.tup [.str "answer", .ref py])) t3 (.tup [.ref ap, .str x, .ref t1, .ref t2])) t2 = some (.tup [.str "answer", .ref py]) := (upd_ne (ne_of_none upd_same nt3)).trans upd_same
      have et1 : (upd (upd (upd H4 t1 (.tup [.int j])) t2 (.tup [.str "answer", .ref py])) t3 (.tup [.ref ap, .str x, .ref t1, .ref t2])) t1 = some (.tup [.int j]) := ((Kp.refl (L := []).new nt2).new nt3).tup _ _ upd_same
      have dv : Di (upd (upd (upd H4 t1 (.tup [.int j])) t2 (.tup [.str "answer", .ref py])) t3 (.tup [.ref ap, .str x, .ref t1, .ref t2])) (.ref t3) (wtD ⟨kk.path, x, [j], .answer kk.path kk.num⟩) :=
        .tup upd_same (.cons (.tup ((k24.trans kc).tup _ _ eap) (Dl.ints _)) (.cons (.str x) (.cons (.tup et1 (.cons (.int j) .nil)) (.cons (.tup et2 (.cons (.str _) (.cons (key4 (k24.trans kc)) .nil))) .nil))))
      have gW5 := kc.same _ _ gW4
      obtain ⟨k5, so5⟩ := (so4.keep kc fun _ _ _ z => BgAt.mono z kc).addW dst gW5 dv
      refine ⟨W, x1, _, rfl, rfl, gW5, by rw [lx1]; exact small' (by omega), ?_⟩
      exact ⟨_, rfl, _, rfl, by show 2 ≤ sizeLine; decide, fun t5 nt5 => ⟨by show 2 ≤ sizeLine; decide, fin _ _ ((k4.then0 kc).trans k5) so5 ea t5 nt5⟩⟩
/-- apply: the state behind an event and what it tells, or ImpossibleEvent -/
def spAp (K : PySem.W.Frag) : Sp := fun vs H Q E => ∃ v sv evv m prg s ev M, vs = [v, sv, evv, .int m] ∧ PrgAt K H v prg ∧ StaAt K H sv s ∧ Di H evv (evD ev) ∧ PrgOk prg ∧ StaOk prg M s ∧ M ≤ 40000 ∧ EvtOk ev ∧
  (isPos prg s ev = true → ∀ Ha t u tv s2 td, Kp [] H Ha → applyW prg s m ev = some (s2, td) → Ha t = some (.tup [u, tv]) → StaAt K Ha u s2 → Di Ha tv (tdD td) → Q (.ref t) Ha) ∧
  (isPos prg s ev = false → ∀ Ha dx, Kp [] H Ha → Ha dx = some (.xd [("event", evv)]) → E (.ref (He.ga K "ImpossibleEvent")) (some dx) Ha)
theorem ok_apply (T : Tx K mg) : FnOk P w K mg base (L2N.CX P w) 26 (He.ga K "apply") T.fd_apply P_apply (spAp K) := by
  refine T.D_apply.ok sc_apply (fun vs H Q E h => by obtain ⟨v, sv, evv, m, prg, s, ev, M, rfl, _⟩ := h; rfl) fun cdv A outer sh H vs Q E hr h => ⟨_, (pss_cons (ps_if (pt_not (pt_val (pe_callS (ok_is_possible T) (hr.mono (by decide)) rfl T.g_is_possible T.p_is_possible T.b_is_possible (fun σ => L2N.passAt (L2N.takes_of rfl rfl rfl rfl) σ) (pa_cons (pv 0) (pa_cons (pv 1) (pa_cons (pv 2) pa_nil))))))
    (pss_one (ps_raiseE T.e_ImpossibleEvent.oex T.e_ImpossibleEvent.init T.e_ImpossibleEvent.fn (ok_ImpossibleEvent_init T) (hr.mono (by decide)) T.b_ImpossibleEvent_init rfl rfl T.g_ImpossibleEvent (L2N.takes_of rfl rfl rfl rfl) (pv 2)))
    pss_nil)
    (pss_one (ps_ret (pe_callS (ok_apply_with T) hr rfl T.g_apply_with T.p_apply_with T.b_apply_with (fun σ => L2N.passAt (L2N.takes_of rfl rfl rfl rfl) σ) (pa_cons (pv 0) (pa_cons (pv 1) (pa_cons (pv 2) (pa_cons (pv 3) (pa_cons (pe_fz (pe_mk0 T.o_Plain rfl T.g_Plain)) pa_nil))))))))), ?_⟩
  obtain ⟨v, sv, evv, m, prg, s, ev, M, rfl, hp, hs, dev, po, ok, lM, eo, q1, q2⟩ := h
  have kinds : Kinds prg s := fun q b mb => let ⟨a, ha, _⟩ := (ok.bgs q b mb).1.kind; ⟨a, ha⟩
  refine ⟨_, rfl, _, rfl, _, rfl, v, sv, evv, prg, s, ev, rfl, hp, hs, dev, eo, kinds, fun Ha ka => ?_⟩
  cases hpos : isPos prg s ev with
  | true =>
    refine ⟨_, rfl, iF rfl ⟨_, rfl, _, rfl, _, rfl, _, rfl, fun x dx nx ndx ne => ⟨x, _, upd_same, True.intro, fun oz => ?_⟩⟩⟩
    have k1 : Kp [] H (upd (upd (upd Ha dx (.own x)) x (.ins (He.ga K "Plain") dx [])) x (.frz oz (.ins (He.ga K "Plain") dx []))) := ((ka.new ndx).own (ka.dom _ nx)).own (ka.dom _ nx)
    exact ⟨v, sv, evv, m, x, prg, s, ev, M, oz, dx, rfl, hp.mono k1, hs.mono k1, dev.mono k1, upd_same, po, ok, lM, eo, hpos, fun Hb t u tv s2 td kb => q1 hpos Hb t u tv s2 td (k1.trans kb)⟩
  | false =>
    exact ⟨_, rfl, iT rfl ⟨_, rfl, fun Hb dx kb eb => q2 hpos Hb dx (ka.trans kb) eb⟩⟩
end
end Rk
/-! Histories: the states at all moments; how a history stands in the heap. -/
namespace Rk
open PySem PySem.Spec PyProof.Rows L2
def stepW (prg : Prg) (s : Sta) (m : Int) (e : Evt) : Sta := match applyW prg s m e with
  | some q => q.1
  | none => s
def sAt (prg : Prg) (s0 : Sta) (evs : List Evt) : Nat → Sta
  | 0 => s0
  | n + 1 => match evs[n]? with
    | some e => stepW prg (sAt prg s0 evs n) n e
    | none => sAt prg s0 evs n
def EvsOk (prg : Prg) (s0 : Sta) (evs : List Evt) : Prop := ∀ i e, evs[i]? = some e → isPos prg (sAt prg s0 evs i) e = true ∧ EvtOk e
theorem sAt_app {prg : Prg} {s0 : Sta} {evs l : List Evt} : ∀ {n : Nat}, n ≤ evs.length → sAt prg s0 (evs ++ l) n = sAt prg s0 evs n
  | 0, _ => rfl
  | n + 1, h => by
    unfold sAt
    rw [List.getElem?_append_left (by omega), sAt_app (n := n) (by omega)]
theorem sAt_take {prg : Prg} {s0 : Sta} {evs : List Evt} {k : Nat} : ∀ {n : Nat}, n ≤ k → n ≤ evs.length → sAt prg s0 (evs.take k) n = sAt prg s0 evs n := fun {n} h1 h2 => by
  have := sAt_app (prg := prg) (s0 := s0) (evs := evs.take k) (l := evs.drop k) (n := n) (by rw [List.length_take]; omega)
  rw [List.take_append_drop] at this
  exact this.symm
theorem EvsOk.app {prg : Prg} {s0 : Sta} {evs : List Evt} {e : Evt} (h : EvsOk prg s0 evs) (p : isPos prg (sAt prg s0 evs evs.length) e = true) (o : EvtOk e) : EvsOk prg s0 (evs ++ [e]) := fun i x hx => by
  by_cases l : i < evs.length
  · rw [List.getElem?_append_left l] at hx
    rw [sAt_app (by omega)]
    exact h i x hx
  · have li : i < (evs ++ [e]).length := (List.getElem?_eq_some_iff.mp hx).1
    rw [List.length_append] at li
    simp only [List.length_cons, List.length_nil] at li
    have ei : i = evs.length := by omega
    subst ei
    rw [List.getElem?_append_right (Nat.le_refl _), Nat.sub_self, List.getElem?_cons_zero] at hx
    cases hx
    rw [sAt_app (Nat.le_refl _)]
    exact ⟨p, o⟩
theorem EvsOk.take {prg : Prg} {s0 : Sta} {evs : List Evt} (h : EvsOk prg s0 evs) (k : Nat) : EvsOk prg s0 (evs.take k) := fun i x hx => by
  have li : i < (evs.take k).length := (List.getElem?_eq_some_iff.mp hx).1
  rw [List.length_take] at li
  rw [List.getElem?_take_of_lt (by omega)] at hx
  rw [sAt_take (by omega) (by omega)]
  exact h i x hx
theorem sAt_ok {prg : Prg} (po : PrgOk prg) {s0 : Sta} (h0 : StaOk prg 100 s0) {evs : List Evt} (ev : EvsOk prg s0 evs) (few : evs.length ≤ 300) : ∀ n, n ≤ evs.length → StaOk prg (100 * (n + 1)) (sAt prg s0 evs n)
  | 0, _ => h0
  | n + 1, h => by
    have ih := sAt_ok po h0 ev few n (by omega)
    obtain ⟨e, he⟩ : ∃ e, evs[n]? = some e := ⟨evs[n]'(by omega), List.getElem?_eq_getElem (by omega)⟩
    obtain ⟨p, o⟩ := ev n e he
    obtain ⟨s2, td, ea, so⟩ := applyW_ok po (m := n) (by omega) ih o p
    unfold sAt
    rw [he]
    show StaOk prg _ (stepW prg _ n e)
    unfold stepW
    rw [ea]
    exact so
theorem sAt_succ {prg : Prg} {s0 : Sta} {evs : List Evt} {n : Nat} {e : Evt} {s2 : Sta} {td : Td} (he : evs[n]? = some e) (ea : applyW prg (sAt prg s0 evs n) n e = some (s2, td)) : sAt prg s0 evs (n + 1) = s2 := by
  show (match evs[n]? with | some e => stepW prg (sAt prg s0 evs n) n e | none => _) = _
  rw [he]
  show stepW prg _ n e = _
  unfold stepW
  rw [ea]
/-- what the events told -/
def TdsOk (prg : Prg) (s0 : Sta) (evs : List Evt) (tds : List Td) : Prop := tds.length = evs.length ∧ ∀ i e, evs[i]? = some e → ∃ s2 td, applyW prg (sAt prg s0 evs i) i e = some (s2, td) ∧ tds[i]? = some td
theorem TdsOk.uniq {prg : Prg} {s0 : Sta} {evs : List Evt} {t1 t2 : List Td} (h1 : TdsOk prg s0 evs t1) (h2 : TdsOk prg s0 evs t2) : t1 = t2 := by
  refine List.ext_getElem? fun i => ?_
  by_cases l : i < evs.length
  · obtain ⟨s2, td, e1, e2⟩ := h1.2 i _ (List.getElem?_eq_getElem l)
    obtain ⟨s3, td', e3, e4⟩ := h2.2 i _ (List.getElem?_eq_getElem l)
    rw [e1] at e3
    cases e3
    rw [e2, e4]
  · rw [List.getElem?_eq_none_iff.mpr (by rw [h1.1]; omega), List.getElem?_eq_none_iff.mpr (by rw [h2.1]; omega)]
theorem TdsOk.app {prg : Prg} {s0 : Sta} {evs : List Evt} {tds : List Td} {e : Evt} {s2 : Sta} {td : Td} (h : TdsOk prg s0 evs tds) (ea : applyW prg (sAt prg s0 evs evs.length) evs.length e = some (s2, td)) : TdsOk prg s0 (evs ++ [e]) (tds ++ [td]) := by
  refine ⟨by rw [List.length_append, List.length_append, h.1]; rfl, fun i x hx => ?_⟩
  by_cases l : i < evs.length
  · rw [List.getElem?_append_left l] at hx
    rw [sAt_app (by omega), List.getElem?_append_left (by rw [h.1]; exact l)]
    exact h.2 i x hx
  · have li : i < (evs ++ [e]).length := (List.getElem?_eq_some_iff.mp hx).1
    rw [List.length_append] at li
    simp only [List.length_cons, List.length_nil] at li
    have ei : i = evs.length := by omega
    subst ei
    rw [List.getElem?_append_right (Nat.le_refl _), Nat.sub_self, List.getElem?_cons_zero] at hx
    cases hx
    refine ⟨s2, td, by rw [sAt_app (Nat.le_refl _)]; exact ea, ?_⟩
    rw [← h.1, List.getElem?_append_right (Nat.le_refl _), Nat.sub_self]
    rfl
/-! ### a history -/
structure Hst where
  every : Nat
  evs : List Evt
  tds : List Td
  kept : List Nat
  pgm : V
structure HstOk (prg : Prg) (s0 : Sta) (h : Hst) : Prop where
  ev1 : 1 ≤ h.every
  ev9 : h.every ≤ 100
  few : h.evs.length ≤ 40
  evs : EvsOk prg s0 h.evs
  tds : TdsOk prg s0 h.evs h.tds
  le : ∀ m ∈ h.kept, m ≤ h.evs.length
  z : 0 ∈ h.kept
  nd : h.kept.Nodup
  kl : h.kept.length ≤ h.evs.length + 1
section
variable {K : PySem.W.Frag}
abbrev hisF (pv : V) (every : Nat) (le lt dk : Addr) (lv : V) : List (Str × V) := [("program", pv), ("_every", .int every), ("_events", .ref le), ("_told", .ref lt), ("_kept", .ref dk), ("_last", lv)]
/-- the states that are kept: moments and states -/
def KAt (K : PySem.W.Frag) (H : Hp) (prg : Prg) (s0 : Sta) (evs : List Evt) : List (Key × V) → List Nat → Prop
  | [], [] => True
  | kv :: r, m :: t => kv.1 = .inl (m : Int) ∧ StaAt K H kv.2 (sAt prg s0 evs m) ∧ KAt K H prg s0 evs r t
  | _, _ => False
/-- a program, and which one -/
def PgAt (K : PySem.W.Frag) (H : Hp) (u : V) (prg : Prg) (v : V) : Prop := PrgAt K H v prg ∧ v = u
theorem PgAt.mono {L : List Addr} {H Ha : Hp} {u v : V} {prg : Prg} (h : PgAt K H u prg v) (k : Kp L H Ha) : PgAt K Ha u prg v := ⟨h.1.mono k, h.2⟩
structure HisAt (K : PySem.W.Frag) (H : Hp) (prg : Prg) (s0 : Sta) (p le lt dk : Addr) (h : Hst) : Prop where
  ins : ∃ dx pv lv, H p = some (.ins (He.ga K "History") dx (hisF pv h.every le lt dk lv)) ∧ PgAt K H h.pgm prg pv ∧ StaAt K H lv (sAt prg s0 h.evs h.evs.length)
  evs : ∃ xs, H le = some (.lst xs) ∧ Dl H xs (h.evs.map evD)
  tds : ∃ xs, H lt = some (.lst xs) ∧ Dl H xs (h.tds.map tdD)
  kept : ∃ kvs, H dk = some (.dK kvs) ∧ KAt K H prg s0 h.evs kvs h.kept
variable {H Ha : Hp} {prg : Prg} {s0 : Sta} {evs : List Evt}
theorem KAt.mono {L : List Addr} (k : Kp L H Ha) : ∀ {kvs : List (Key × V)} {ms : List Nat}, KAt K H prg s0 evs kvs ms → KAt K Ha prg s0 evs kvs ms
  | [], [], _ => trivial
  | _ :: _, _ :: _, ⟨a, b, c⟩ => ⟨a, b.mono k, KAt.mono k c⟩
  | [], _ :: _, q => q.elim
  | _ :: _, [], q => q.elim
theorem KAt.len : ∀ {kvs : List (Key × V)} {ms : List Nat}, KAt K H prg s0 evs kvs ms → kvs.length = ms.length
  | [], [], _ => rfl
  | _ :: _, _ :: _, ⟨_, _, c⟩ => by simp [KAt.len c]
  | [], _ :: _, q => q.elim
  | _ :: _, [], q => q.elim
theorem KAt.keys : ∀ {kvs : List (Key × V)} {ms : List Nat}, KAt K H prg s0 evs kvs ms → kvs.map (fun kv => kV kv.1) = ms.map fun m : Nat => V.int (m : Int)
  | [], [], _ => rfl
  | _ :: _, _ :: _, ⟨a, _, c⟩ => by rw [List.map_cons, List.map_cons, KAt.keys c, a]; rfl
  | [], _ :: _, q => q.elim
  | _ :: _, [], q => q.elim
theorem KAt.get : ∀ {kvs : List (Key × V)} {ms : List Nat} {m : Nat}, KAt K H prg s0 evs kvs ms → m ∈ ms → ∃ v, valV kvs (.inl (m : Int)) = some v ∧ StaAt K H v (sAt prg s0 evs m)
  | [], [], _, _, h => nomatch h
  | kv :: r, x :: t, m, ⟨a, b, c⟩, h => by
    by_cases e : x = m
    · subst e
      exact ⟨kv.2, valV_pos a, b⟩
    · have e2 : ¬ kv.1 = Sum.inl (m : Int) := fun z => e (by rw [a] at z; exact Int.ofNat.inj (Sum.inl.inj z))
      rw [valV_neg e2]
      rcases List.mem_cons.mp h with q | q
      · exact absurd q.symm e
      · exact KAt.get c q
  | [], _ :: _, _, q, _ => q.elim
  | _ :: _, [], _, q, _ => q.elim
theorem KAt.none : ∀ {kvs : List (Key × V)} {ms : List Nat} {i : Int}, KAt K H prg s0 evs kvs ms → (∀ m ∈ ms, (m : Int) ≠ i) → valV kvs (.inl i) = .none
  | [], [], _, _, _ => rfl
  | kv :: r, x :: t, i, ⟨a, b, c⟩, h => by
    have e2 : ¬ kv.1 = Sum.inl i := fun z => h x List.mem_cons_self (by rw [a] at z; exact Sum.inl.inj z)
    rw [valV_neg e2]
    exact KAt.none c fun m q => h m (List.mem_cons_of_mem _ q)
  | [], _ :: _, _, q, _ => q.elim
  | _ :: _, [], _, q, _ => q.elim
theorem KAt.app {v : V} {m : Nat} (hv : StaAt K H v (sAt prg s0 evs m)) : ∀ {kvs : List (Key × V)} {ms : List Nat}, KAt K H prg s0 evs kvs ms → KAt K H prg s0 evs (kvs ++ [(.inl (m : Int), v)]) (ms ++ [m])
  | [], [], _ => ⟨rfl, hv, trivial⟩
  | _ :: _, _ :: _, ⟨a, b, c⟩ => ⟨a, b, KAt.app hv c⟩
  | [], _ :: _, q => q.elim
  | _ :: _, [], q => q.elim
theorem KAt.drop {i : Int} : ∀ {kvs : List (Key × V)} {ms : List Nat}, KAt K H prg s0 evs kvs ms → KAt K H prg s0 evs (dropK kvs (.inl i)) (ms.filter fun m => decide ((m : Int) ≠ i))
  | [], [], _ => trivial
  | kv :: r, x :: t, ⟨a, b, c⟩ => by
    unfold dropK
    rw [List.filter_cons, List.filter_cons]
    by_cases e : (x : Int) = i
    · rw [if_neg (by simp [a, e]), if_neg (by simp [e])]
      exact KAt.drop c
    · have e2 : ¬ kv.1 = Sum.inl i := fun z => e (by rw [a] at z; exact Sum.inl.inj z)
      rw [if_pos (decide_eq_true e2), if_pos (decide_eq_true e)]
      exact ⟨a, b, KAt.drop c⟩
  | [], _ :: _, q => q.elim
  | _ :: _, [], q => q.elim
theorem KAt.more {l : List Evt} : ∀ {kvs : List (Key × V)} {ms : List Nat}, (∀ m ∈ ms, m ≤ evs.length) → KAt K H prg s0 evs kvs ms → KAt K H prg s0 (evs ++ l) kvs ms
  | [], [], _, _ => trivial
  | _ :: _, x :: _, h, ⟨a, b, c⟩ => ⟨a, by rw [sAt_app (h x List.mem_cons_self)]; exact b, KAt.more (fun m q => h m (List.mem_cons_of_mem _ q)) c⟩
  | [], _ :: _, _, q => q.elim
  | _ :: _, [], _, q => q.elim
theorem HisAt.keep {p le lt dk : Addr} {h : Hst} (a : HisAt K H prg s0 p le lt dk h) (k : Kp [] H Ha) : HisAt K Ha prg s0 p le lt dk h := by
  obtain ⟨⟨dx, pv, lv, e, d1, d2⟩, ⟨xs, e2, d3⟩, ⟨ys, e3, d4⟩, ⟨kvs, e4, d5⟩⟩ := a
  exact ⟨⟨dx, pv, lv, k.same _ _ e, d1.mono k, d2.mono k⟩, ⟨xs, k.same _ _ e2, d3.mono k⟩, ⟨ys, k.same _ _ e3, d4.mono k⟩, ⟨kvs, k.same _ _ e4, d5.mono k⟩⟩
end
end Rk
/-! retroact.history: History made, its lists, an event recorded. -/
namespace Rk
open PySem PySem.Spec PyProof.Rows L2
section
variable {K : PySem.W.Frag} {mg : Str → Option Value} {P : Program} {w : World} {base : Heap}
structure FstOk (prg : Prg) (s0 : Sta) (a : Act) : Prop where
  a0 : prg.acts[0]? = some a
  ha : actOf prg a.nam = some a
  np : a.pars = []
  s0 : s0 = ⟨[([], bornA a.nam a [])], [], [], []⟩
def spHi (K : PySem.W.Frag) : Sp := fun vs H Q _ => ∃ o dx v ev prg s0 a, vs = [.ref o, v, .int (ev : Nat)] ∧ H o = some (.ins (He.ga K "History") dx []) ∧ PrgAt K H v prg ∧ PrgOk prg ∧ FstOk prg s0 a ∧
  ∀ Ha le lt dk, Kp [o] H Ha → HisAt K Ha prg s0 o le lt dk ⟨ev, [], [], [0], v⟩ → H le = none → H lt = none → H dk = none → le ≠ lt → Q .non Ha
theorem ok_History_init (T : Tx K mg) : FnOk P w K mg base (L2N.CX P w) 13 (He.ma K (He.ga K "History") "__init__") T.fd_History_init P_History_init (spHi K) := by
  refine T.D_History_init.ok sc_History_init (fun vs H Q E h => by obtain ⟨o, dx, v, ev, prg, s0, a, rfl, _⟩ := h; rfl) fun cdv A outer s H vs Q E hr h => ⟨_, (pss_cons (ps_fe T.c_History T.n_History_program (pv 0) (pv 1))
    (pss_cons (ps_fe T.c_History T.n_History__every (pv 0) (pv 2))
    (pss_cons (ps_fe T.c_History T.n_History__events (pv 0) (pe_lst pa_nil))
    (pss_cons (ps_fe T.c_History T.n_History__told (pv 0) (pe_lst pa_nil))
    (pss_cons (ps_fe T.c_History T.n_History__kept (pv 0) (pe_disp (pps_cons pe_int (pe_callS (ok_first_state T) (hr.mono (by decide)) rfl T.g_first_state T.p_first_state T.b_first_state (fun σ => L2N.passAt (L2N.takes_of rfl rfl rfl rfl) σ) (pa_cons (pv 1) pa_nil)) pps_nil) rfl rfl (by simp) (by decide)))
    (pss_one (ps_fe T.c_History T.n_History__last (pv 0) (pe_dget (hu_of hr) (pe_fe T.c_History T.n_History__kept (pv 0)) pe_int (fun _ _ => rfl))))))))), ?_⟩
  obtain ⟨o, dx, v, ev, prg, s0, a, rfl, eo, hp, po, fo, q⟩ := h
  have k0 : Kp [o] H (upd (upd H o (.ins (He.ga K "History") dx [("program", v)])) o (.ins (He.ga K "History") dx [("program", v), ("_every", .int (ev : Nat))])) := (Kp.refl.wr (by simp) eo).wr (by simp) upd_same
  refine ⟨_, rfl, _, rfl, o, dx, [], rfl, eo, (by decide : (0 : Nat) < 1000), _, rfl, _, rfl, o, dx, [("program", v)], rfl, upd_same, (by decide : (1 : Nat) < 1000), ?_⟩
  have i0 : (upd (upd H o (.ins (He.ga K "History") dx [("program", v)])) o (.ins (He.ga K "History") dx [("program", v), ("_every", .int (ev : Nat))])) o = some (.ins (He.ga K "History") dx [("program", v), ("_every", .int (ev : Nat))]) := upd_same
  refine ⟨Nat.zero_le _, fun le nle => ?_⟩
  have hle : le ≠ o := fun z => by rw [z] at nle; exact absurd (i0.symm.trans nle) fun z => nomatch z
  have nleH : H le = none := k0.dom _ nle
  refine ⟨_, rfl, o, dx, [("program", v), ("_every", .int (ev : Nat))], rfl, (upd_ne (Ne.symm hle)).trans i0, (by decide : (2 : Nat) < 1000), Nat.zero_le _, fun lt nlt => ?_⟩
  have k1 := (k0.new (o := .lst []) nle).wr (p := o) (o := .ins (He.ga K "History") dx [("program", v), ("_every", .int (ev : Nat)), ("_events", .ref le)]) (by simp) ((upd_ne (Ne.symm hle)).trans i0)
  have nltH : H lt = none := k1.dom _ nlt
  have hlt : lt ≠ o := fun z => by rw [z, eo] at nltH; cases nltH
  have hll : le ≠ lt := ne_of_none ((upd_ne hle).trans upd_same) nlt
  refine ⟨_, rfl, o, dx, [("program", v), ("_every", .int (ev : Nat)), ("_events", .ref le)], rfl, (upd_ne (Ne.symm hlt)).trans upd_same, (by decide : (3 : Nat) < 1000), ?_⟩
  have k2 := (k1.new (o := .lst []) nlt).wr (p := o) (o := .ins (He.ga K "History") dx [("program", v), ("_every", .int (ev : Nat)), ("_events", .ref le), ("_told", .ref lt)]) (by simp) ((upd_ne (Ne.symm hlt)).trans upd_same)
  have f2 : ∀ (Hx : Hp) (u1 u2 : HO), (upd (upd (upd (upd Hx le (.lst [])) o u1) lt (.lst [])) o u2) le = some (.lst []) := fun _ _ _ => (upd_ne hle).trans ((upd_ne hll).trans ((upd_ne hle).trans upd_same))
  intro dk ndk
  have ndkH : H dk = none := k2.dom _ ndk
  have hdo : dk ≠ o := fun z => by rw [z, eo] at ndkH; cases ndkH
  have hdl : le ≠ dk := ne_of_none (f2 _ _ _) ndk
  have hdt : lt ≠ dk := ne_of_none ((upd_ne hlt).trans upd_same) ndk
  have k3 := k2.new (o := .dK []) ndk
  refine ⟨_, rfl, v, prg, a, rfl, hp.mono k3, fo.a0, fo.ha, po.acts _ _ fo.ha, fo.np, fun Hb u kb su => ⟨kb.same _ _ upd_same, [(.inl 0, u)], rfl, by show 1 ≤ 15; decide, ?_⟩⟩
  rw [← fo.s0] at su
  have k4 := k3.then0 kb
  have go := kb.same _ _ ((upd_ne (Ne.symm hdo)).trans upd_same)
  have ge := kb.same _ _ ((upd_ne hdl).trans (f2 _ _ _))
  have gt := kb.same _ _ ((upd_ne hdt).trans ((upd_ne hlt).trans upd_same))
  have k5 : Kp [o] H (upd Hb dk (.dK [(.inl 0, u)])) := k4.own ndkH
  refine ⟨_, rfl, o, dx, [("program", v), ("_every", .int (ev : Nat)), ("_events", .ref le), ("_told", .ref lt)], rfl, (upd_ne (Ne.symm hdo)).trans go, (by decide : (4 : Nat) < 1000), ?_⟩
  have k6 := k5.wr (p := o) (o := .ins (He.ga K "History") dx [("program", v), ("_every", .int (ev : Nat)), ("_events", .ref le), ("_told", .ref lt), ("_kept", .ref dk)]) (by simp) ((upd_ne (Ne.symm hdo)).trans go)
  have gd : (upd (upd Hb dk (.dK [(.inl 0, u)])) o (.ins (He.ga K "History") dx [("program", v), ("_every", .int (ev : Nat)), ("_events", .ref le), ("_told", .ref lt), ("_kept", .ref dk)])) dk = some (.dK [(.inl 0, u)]) := (upd_ne hdo).trans upd_same
  refine ⟨_, rfl, o, dx, [("program", v), ("_every", .int (ev : Nat)), ("_events", .ref le), ("_told", .ref lt), ("_kept", .ref dk)], _, rfl, upd_same, rfl, dk, u, rfl, DGet.k (k := .inl 0) gd, _, rfl, o, dx, [("program", v), ("_every", .int (ev : Nat)), ("_events", .ref le), ("_told", .ref lt), ("_kept", .ref dk)], rfl, upd_same, (by decide : (5 : Nat) < 1000), ?_⟩
  have kz : Kp [o, dk] Hb (upd (upd (upd Hb dk (.dK [(.inl 0, u)])) o (.ins (He.ga K "History") dx [("program", v), ("_every", .int (ev : Nat)), ("_events", .ref le), ("_told", .ref lt), ("_kept", .ref dk)])) o (.ins (He.ga K "History") dx (hisF v ev le lt dk u))) := ((Kp.refl.wr (by simp) (kb.same _ _ upd_same)).wr (by simp) ((upd_ne (Ne.symm hdo)).trans go)).wr (by simp) upd_same
  refine q _ le lt dk (k6.wr (by simp) upd_same) ?_ nleH nltH ndkH hll
  refine ⟨⟨dx, v, u, upd_same, ⟨(hp.mono k4).mono kz, rfl⟩, su.mono kz⟩, ⟨[], (upd_ne hle).trans ((upd_ne hle).trans ((upd_ne hdl).trans ge)), .nil⟩, ⟨[], (upd_ne hlt).trans ((upd_ne hlt).trans ((upd_ne hdt).trans gt)), .nil⟩, ⟨_, (upd_ne hdo).trans gd, rfl, su.mono kz, trivial⟩⟩
def spHl (K : PySem.W.Frag) (f : Hst → List PyData) : Sp := fun vs H Q _ => ∃ p le lt dk h prg s0, vs = [.ref p] ∧ HisAt K H prg s0 p le lt dk h ∧ ∀ l xs, H l = none → Dl H xs (f h) → Q (.ref l) (upd H l (.lst xs))
theorem ok_History_events (T : Tx K mg) : FnOk P w K mg base (L2N.CX P w) 1 (He.ma K (He.ga K "History") "events") T.fd_History_events P_History_events (spHl K fun h => h.evs.map evD) := by
  refine T.D_History_events.ok sc_History_events (fun vs H Q E h => by obtain ⟨p, le, lt, dk, h, prg, s0, rfl, _⟩ := h; rfl) fun cdv A outer s H vs Q E hr h => ⟨_, (pss_one (ps_ret (pe_callTy call_list_of (by rfl) T.f_list (by decide +kernel) (pa_cons (pe_fe T.c_History T.n_History__events (pv 0)) pa_nil)))), ?_⟩
  obtain ⟨p, le, lt, dk, h, prg, s0, rfl, a, q⟩ := h
  obtain ⟨dx, pv, lv, e, _, _⟩ := a.ins
  obtain ⟨xs, e2, d2⟩ := a.evs
  exact ⟨_, rfl, p, dx, _, _, rfl, e, rfl, le, xs, rfl, .inl (SqL.of e2), fun l nl => q l xs nl d2⟩
theorem ok_History_told (T : Tx K mg) : FnOk P w K mg base (L2N.CX P w) 1 (He.ma K (He.ga K "History") "told") T.fd_History_told P_History_told (spHl K fun h => h.tds.map tdD) := by
  refine T.D_History_told.ok sc_History_told (fun vs H Q E h => by obtain ⟨p, le, lt, dk, h, prg, s0, rfl, _⟩ := h; rfl) fun cdv A outer s H vs Q E hr h => ⟨_, (pss_one (ps_ret (pe_callTy call_list_of (by rfl) T.f_list (by decide +kernel) (pa_cons (pe_fe T.c_History T.n_History__told (pv 0)) pa_nil)))), ?_⟩
  obtain ⟨p, le, lt, dk, h, prg, s0, rfl, a, q⟩ := h
  obtain ⟨dx, pv, lv, e, _, _⟩ := a.ins
  obtain ⟨xs, e2, d2⟩ := a.tds
  exact ⟨_, rfl, p, dx, _, _, rfl, e, rfl, lt, xs, rfl, .inl (SqL.of e2), fun l nl => q l xs nl d2⟩
end
end Rk
/-! retroact.history: kept, forget, record. -/
namespace Rk
open PySem PySem.Spec PyProof.Rows L2
def forgetL (k : List Nat) : List Int → List Nat
  | [] => k
  | m :: r => forgetL (if m = 0 then k else k.filter fun x : Nat => decide ((x : Int) ≠ m)) r
theorem forgetL_drop {ms : List Int} {i : Nat} {m : Int} {k : List Nat} (h : ms[i]? = some m) : forgetL k (ms.drop i) = forgetL (if m = 0 then k else k.filter fun x : Nat => decide ((x : Int) ≠ m)) (ms.drop (i + 1)) := by
  obtain ⟨lt, e⟩ := List.getElem?_eq_some_iff.mp h
  rw [List.drop_eq_getElem_cons lt, e]
  rfl
theorem filter_keep {k : List Nat} {m : Int} (h : ∀ x ∈ k, (x : Int) ≠ m) : (k.filter fun x : Nat => decide ((x : Int) ≠ m)) = k := List.filter_eq_self.mpr fun x hx => decide_eq_true (h x hx)
section
variable {K : PySem.W.Frag} {mg : Str → Option Value} {P : Program} {w : World} {base : Heap}
def spKp (K : PySem.W.Frag) : Sp := fun vs H Q _ => ∃ p le lt dk h prg s0, vs = [.ref p] ∧ HisAt K H prg s0 p le lt dk h ∧ h.kept.length < 64 ∧ ∀ Ha l, ∀ ns : List Int, Kp [] H Ha → Ha l = some (.lst (ns.map V.int)) → ns.Perm (h.kept.map fun m : Nat => (m : Int)) → ns.Pairwise (· ≤ ·) → Q (.ref l) Ha
theorem ok_History_kept (T : Tx K mg) : FnOk P w K mg base (L2N.CX P w) 1 (He.ma K (He.ga K "History") "kept") T.fd_History_kept P_History_kept (spKp K) := by
  refine T.D_History_kept.ok sc_History_kept (fun vs H Q E h => by obtain ⟨p, le, lt, dk, h, prg, s0, rfl, _⟩ := h; rfl) fun cdv A outer s H vs Q E hr h => ⟨_, (pss_one (ps_ret (pe_callB cr_sorted (by rfl) T.f_sorted (by decide +kernel) (pa_cons (pe_callTy (call_keysL (by rfl)) (by rfl) T.f_list (by decide +kernel) (pa_cons (pe_fe T.c_History T.n_History__kept (pv 0)) pa_nil)) pa_nil)))), ?_⟩
  obtain ⟨p, le, lt, dk, h, prg, s0, rfl, a, few, q⟩ := h
  obtain ⟨dx, pv, lv, e, _, _⟩ := a.ins
  obtain ⟨kvs, e2, kt⟩ := a.kept
  have ek : (kvs.map fun kv => kV kv.1) = (h.kept.map fun m : Nat => (m : Int)).map V.int := by rw [kt.keys, List.map_map]; rfl
  refine ⟨_, rfl, p, dx, _, _, rfl, e, rfl, dk, kvs, rfl, .inl e2, fun l nl => ?_⟩
  refine ⟨l, _, rfl, SqL.of (by rw [upd_same, ek]), by rw [List.length_map]; exact few, fun ns l2 pm so nl2 => ?_⟩
  exact q _ l2 ns ((Kp.refl.new nl).new nl2) upd_same pm so
def spFg (K : PySem.W.Frag) : Sp := fun vs H Q _ => ∃ p le lt dk h prg s0 lm, ∃ ms : List Int, vs = [.ref p, .ref lm] ∧ HisAt K H prg s0 p le lt dk h ∧ (∀ Ha, Kp [dk] H Ha → SqL K Ha lm (ms.map V.int)) ∧
  ∀ Ha, Kp [dk] H Ha → HisAt K Ha prg s0 p le lt dk { h with kept := forgetL h.kept ms } → Q .non Ha
theorem ok_History_forget (T : Tx K mg) : FnOk P w K mg base (L2N.CX P w) 1 (He.ma K (He.ga K "History") "forget") T.fd_History_forget P_History_forget (spFg K) := by
  refine T.D_History_forget.ok sc_History_forget (fun vs H Q E h => by obtain ⟨p, le, lt, dk, h, prg, s0, lm, ms, rfl, _⟩ := h; rfl) fun cdv A outer s H vs Q E hr h => ⟨_, (pss_one (ps_for PassesOwn.leaving rfl (pi_list (pv 1)) (pg_name (i := 2) sc_History_forget.nd rfl (.inl rfl))
    (pss_one (ps_if (PW.pt (pw_and (pt_cmpR op_ne (pv 2) pe_int (nomark _)) (pw_and1 (pt_cmp (pc_din (hu_of hr) (pv 2) (pe_fe T.c_History T.n_History__kept (pv 0)))))))
    (pss_one (ps_expr (pe_dpop1 (pe_fe T.c_History T.n_History__kept (pv 0)) (pv 2) ⟨rfl, rfl, rfl, rfl⟩)))
    pss_nil)))), ?_⟩
  obtain ⟨p, le, lt, dk, h, prg, s0, lm, ms, rfl, a, hm, q⟩ := h
  refine ⟨_, rfl, lm, rfl, ⟨_, hm H .refl⟩, for_list (xs := ms.map V.int) (fun i σ Ha => ∃ tv kk, σ = [some (.ref p), some (.ref lm), tv] ∧ Kp [dk] H Ha ∧ HisAt K Ha prg s0 p le lt dk { h with kept := kk } ∧ forgetL h.kept ms = forgetL kk (ms.drop i)) ⟨none, h.kept, rfl, .refl, a, rfl⟩ (fun i σ Ha _ ⟨_, _, _, k, _⟩ => hm _ k) (fun i x σ Ha hx ⟨tv, kk, eσ, k, a1, hf⟩ => ?_) fun σ Ha ⟨tv, kk, eσ, k, a1, hf⟩ => ?_⟩
  · subst eσ
    rw [List.getElem?_map] at hx
    obtain ⟨m, hm2, rfl⟩ : ∃ m, ms[i]? = some m ∧ V.int m = x := by
      cases q : ms[i]? with
      | none => rw [q] at hx; cases hx
      | some e => rw [q] at hx; exact ⟨e, rfl, Option.some.inj hx⟩
    rw [forgetL_drop hm2] at hf
    obtain ⟨dx, pv, lv, e, d1, d2⟩ := a1.ins
    obtain ⟨kvs, e2, kt⟩ := a1.kept
    refine ⟨_, rfl, rfl, ?_⟩
    rw [dI]
    by_cases m0 : m = 0
    · rw [if_pos m0] at hf
      exact ⟨_, rfl, iF (by rw [decide_eq_true m0]; rfl) ⟨_, kk, rfl, k, a1, hf⟩⟩
    · rw [if_neg m0] at hf
      refine ⟨_, rfl, iT (by rw [decide_eq_false m0]; rfl) ⟨_, rfl, _, rfl, p, dx, _, _, rfl, e, rfl, dk, valV kvs (.inl m), rfl, DGet.k (k := .inl m) e2, ?_⟩⟩
      by_cases mem : ∃ x : Nat, x ∈ kk ∧ (x : Int) = m
      · obtain ⟨x, hmem, rfl⟩ := mem
        obtain ⟨v, ev, sv⟩ := kt.get hmem
        rw [ev]
        refine ⟨_, rfl, iT rfl ⟨_, rfl, p, dx, _, _, rfl, e, rfl, dk, rfl, ?_, _, rfl, kvs, .inl (x : Int), v, e2, rfl, ev, ?_⟩⟩
        · exact .inl ⟨kvs, .inl e2⟩
        · have k2 : Kp [dk] Ha (upd Ha dk (.dK (dropK kvs (.inl (x : Int))))) := Kp.refl.wr (by simp) e2
          obtain ⟨xs, e3, d3⟩ := a1.evs
          obtain ⟨ys, e4, d4⟩ := a1.tds
          exact ⟨_, kk.filter fun y : Nat => decide ((y : Int) ≠ (x : Int)), rfl, k.trans k2, ⟨⟨dx, pv, lv, (upd_ne (ne_of e e2 fun z => nomatch z)).trans e, d1.mono k2, d2.mono k2⟩, ⟨xs, (upd_ne (ne_of e3 e2 fun z => nomatch z)).trans e3, d3.mono k2⟩, ⟨ys, (upd_ne (ne_of e4 e2 fun z => nomatch z)).trans e4, d4.mono k2⟩, ⟨_, upd_same, kt.drop.mono k2⟩⟩, hf⟩
      · have no : ∀ x ∈ kk, (x : Int) ≠ m := fun x hx z => mem ⟨x, hx, z⟩
        rw [kt.none no]
        rw [filter_keep no] at hf
        exact ⟨_, rfl, iF rfl ⟨_, kk, rfl, k, a1, hf⟩⟩
  · subst eσ
    rw [List.length_map, List.drop_length] at hf
    rw [show forgetL kk [] = kk from rfl] at hf
    rw [hf] at q
    exact q Ha k a1
def spRc (K : PySem.W.Frag) : Sp := fun vs H Q E => ∃ p le lt dk h prg s0 evv ev, vs = [.ref p, evv] ∧ HisAt K H prg s0 p le lt dk h ∧ le ≠ lt ∧ HstOk prg s0 h ∧ h.evs.length < 40 ∧ PrgOk prg ∧ StaOk prg 100 s0 ∧ Di H evv (evD ev) ∧ EvtOk ev ∧
  (isPos prg (sAt prg s0 h.evs h.evs.length) ev = true → ∀ Ha tv td s2, Kp [p, le, lt, dk] H Ha → applyW prg (sAt prg s0 h.evs h.evs.length) h.evs.length ev = some (s2, td) → Di Ha tv (tdD td) → HisAt K Ha prg s0 p le lt dk { h with evs := h.evs ++ [ev], tds := h.tds ++ [td], kept := if (h.evs.length + 1) % h.every = 0 then h.kept ++ [h.evs.length + 1] else h.kept } → Q tv Ha) ∧
  (isPos prg (sAt prg s0 h.evs h.evs.length) ev = false → ∀ Ha dx, Kp [] H Ha → Ha dx = some (.xd [("event", evv)]) → E (.ref (He.ga K "ImpossibleEvent")) (some dx) Ha)
theorem ok_History_record (T : Tx K mg) : FnOk P w K mg base (L2N.CX P w) 27 (He.ma K (He.ga K "History") "record") T.fd_History_record P_History_record (spRc K) := by
  refine T.D_History_record.ok sc_History_record (fun vs H Q E h => by obtain ⟨p, le, lt, dk, h, prg, s0, evv, ev, rfl, _⟩ := h; rfl) fun cdv A outer s H vs Q E hr h => ⟨_, (pss_cons (ps_set (i := 2) sc_History_record.nd rfl (.inl rfl) (pe_callB call_len_seq (by rfl) T.f_len (by decide +kernel) (pa_cons (pe_fe T.c_History T.n_History__events (pv 0)) pa_nil)))
    (pss_cons (ps_asg (pe_callS (ok_apply T) hr rfl T.g_apply T.p_apply T.b_apply (fun σ => L2N.passAt (L2N.takes_of rfl rfl rfl rfl) σ) (pa_cons (pe_fe T.c_History T.n_History_program (pv 0)) (pa_cons (pe_fe T.c_History T.n_History__last (pv 0)) (pa_cons (pv 1) (pa_cons (pv 2) pa_nil))))) (pg_tup rfl (pgs_cons (pg_name (i := 3) sc_History_record.nd rfl (.inl rfl)) (pgs_cons (pg_name (i := 4) sc_History_record.nd rfl (.inl rfl)) pgs_nil))))
    (pss_cons (ps_fe T.c_History T.n_History__last (pv 0) (pv 3))
    (pss_cons (ps_expr (pe_bm PySem.F.plainAttrs_list PySem.F.slot_list_append PySem.F.type_list_append mt_append (pe_fe T.c_History T.n_History__events (pv 0)) (pa_cons (pv 1) pa_nil)))
    (pss_cons (ps_expr (pe_bm PySem.F.plainAttrs_list PySem.F.slot_list_append PySem.F.type_list_append mt_append (pe_fe T.c_History T.n_History__told (pv 0)) (pa_cons (pv 4) pa_nil)))
    (pss_cons (ps_if (pt_cmpR op_eq (pe_op op_mod (pe_callTy call_int1 (by rfl) T.f_int (by decide +kernel) (pa_cons (pe_op op_add (pv 2) pe_int) pa_nil)) (pe_fe T.c_History T.n_History__every (pv 0))) pe_int (nomark _))
    (pss_one (ps_dput (hu_of hr) (pe_fe T.c_History T.n_History__kept (pv 0)) (pe_op op_add (pv 2) pe_int) (pv 3) rfl))
    pss_nil)
    (pss_one (ps_ret (pv 4))))))))), ?_⟩
  obtain ⟨p, le, lt, dk, h, prg, s0, evv, ev, rfl, a, hll, ok, few, po, ok0, dev, eo, q1, q2⟩ := h
  obtain ⟨dx, pv, lv, e, d1, d2⟩ := a.ins
  obtain ⟨xs, e2, d3⟩ := a.evs
  obtain ⟨ys, e3, d4⟩ := a.tds
  obtain ⟨kvs, e4, kt⟩ := a.kept
  have lx : xs.length = h.evs.length := by rw [d3.length, List.length_map]
  have ly : ys.length = h.tds.length := by rw [d4.length, List.length_map]
  have lt2 : h.tds.length = h.evs.length := ok.tds.1
  have sok := sAt_ok po ok0 ok.evs (by omega) h.evs.length (Nat.le_refl _)
  refine ⟨_, rfl, p, dx, _, _, rfl, e, rfl, le, xs, rfl, .inl (SqL.of e2), ?_⟩
  rw [lx]
  refine ⟨_, rfl, p, dx, _, _, rfl, e, rfl, _, rfl, p, dx, _, _, rfl, e, rfl, _, rfl, _, rfl, pv, lv, evv, h.evs.length, prg, sAt prg s0 h.evs h.evs.length, ev, 100 * (h.evs.length + 1), rfl, d1.1, d2, dev, po, sok, by omega, eo, fun hpos Ha t u tv s2 td ka ea et su dt => ?_, q2⟩
  refine ⟨t, _, rfl, SqT.of et, rfl, _, _, rfl, _, _, rfl, rfl, ?_⟩
  have e' := ka.same _ _ e
  have hple : p ≠ le := ne_of e e2 fun z => nomatch z
  have hplt : p ≠ lt := ne_of e e3 fun z => nomatch z
  have hpdk : p ≠ dk := ne_of e e4 fun z => nomatch z
  have hledk : le ≠ dk := ne_of e2 e4 fun z => nomatch z
  have hltdk : lt ≠ dk := ne_of e3 e4 fun z => nomatch z
  have evOk : sAt prg s0 (h.evs ++ [ev]) (h.evs ++ [ev]).length = s2 := by
    rw [show (h.evs ++ [ev]).length = h.evs.length + 1 from by rw [List.length_append]; rfl]
    refine sAt_succ (e := ev) (td := td) ?_ ?_
    · rw [List.getElem?_append_right (Nat.le_refl _), Nat.sub_self]; rfl
    · rw [sAt_app (Nat.le_refl _)]; exact ea
  -- the new last state, event and told
  have k1 : Kp [p, le, lt, dk] H (upd Ha p (.ins (He.ga K "History") dx (hisF pv h.every le lt dk u))) := (ka.more fun _ m => nomatch m).wr (by simp) e'
  refine ⟨_, rfl, _, rfl, p, dx, _, rfl, e', (by decide : (6 : Nat) < 1000), ?_⟩
  have f2 : (upd Ha p (.ins (He.ga K "History") dx (hisF pv h.every le lt dk u))) le = some (.lst xs) := (upd_ne (Ne.symm hple)).trans (ka.same _ _ e2)
  refine ⟨_, rfl, p, dx, hisF pv h.every le lt dk u, _, rfl, upd_same, rfl, .inl ⟨rfl, _, SqL.of f2⟩, _, rfl, le, xs, _, rfl, rfl, f2, by rw [lx]; exact small' (by omega), ?_⟩
  have k2 := k1.wr (p := le) (o := .lst (xs ++ [evv])) (by simp) f2
  have g1 : (upd (upd Ha p (.ins (He.ga K "History") dx (hisF pv h.every le lt dk u))) le (.lst (xs ++ [evv]))) p = some (.ins (He.ga K "History") dx (hisF pv h.every le lt dk u)) := (upd_ne hple).trans upd_same
  have g3 : (upd (upd Ha p (.ins (He.ga K "History") dx (hisF pv h.every le lt dk u))) le (.lst (xs ++ [evv]))) lt = some (.lst ys) := (upd_ne (Ne.symm hll)).trans ((upd_ne (Ne.symm hplt)).trans (ka.same _ _ e3))
  refine ⟨_, rfl, p, dx, hisF pv h.every le lt dk u, _, rfl, g1, rfl, .inl ⟨rfl, _, SqL.of g3⟩, _, rfl, lt, ys, _, rfl, rfl, g3, by rw [ly]; exact small' (by omega), ?_⟩
  have k3 := k2.wr (p := lt) (o := .lst (ys ++ [tv])) (by simp) g3
  have j1 : (upd (upd (upd Ha p (.ins (He.ga K "History") dx (hisF pv h.every le lt dk u))) le (.lst (xs ++ [evv]))) lt (.lst (ys ++ [tv]))) p = some (.ins (He.ga K "History") dx (hisF pv h.every le lt dk u)) := (upd_ne hplt).trans g1
  have j2 : (upd (upd (upd Ha p (.ins (He.ga K "History") dx (hisF pv h.every le lt dk u))) le (.lst (xs ++ [evv]))) lt (.lst (ys ++ [tv]))) le = some (.lst (xs ++ [evv])) := (upd_ne hll).trans upd_same
  have j3 : (upd (upd (upd Ha p (.ins (He.ga K "History") dx (hisF pv h.every le lt dk u))) le (.lst (xs ++ [evv]))) lt (.lst (ys ++ [tv]))) lt = some (.lst (ys ++ [tv])) := upd_same
  have j4 : (upd (upd (upd Ha p (.ins (He.ga K "History") dx (hisF pv h.every le lt dk u))) le (.lst (xs ++ [evv]))) lt (.lst (ys ++ [tv]))) dk = some (.dK kvs) := (upd_ne (Ne.symm hltdk)).trans ((upd_ne (Ne.symm hledk)).trans ((upd_ne (Ne.symm hpdk)).trans (ka.same _ _ e4)))
  have ka3 : Kp [p, le, lt, dk] Ha (upd (upd (upd Ha p (.ins (He.ga K "History") dx (hisF pv h.every le lt dk u))) le (.lst (xs ++ [evv]))) lt (.lst (ys ++ [tv]))) := ((Kp.refl.wr (by simp) e').wr (by simp) f2).wr (by simp) g3
  obtain ⟨H3, hH3⟩ : ∃ H3, (upd (upd (upd Ha p (.ins (He.ga K "History") dx (putF "_last" u (hisF pv h.every le lt dk lv)))) le (.lst (xs ++ [evv]))) lt (.lst (ys ++ [tv]))) = H3 := ⟨_, rfl⟩
  have eH3 : (upd (upd (upd Ha p (.ins (He.ga K "History") dx (hisF pv h.every le lt dk u))) le (.lst (xs ++ [evv]))) lt (.lst (ys ++ [tv]))) = H3 := hH3
  rw [eH3] at k3 j1 j2 j3 j4 ka3
  rw [hH3]
  have kth : KAt K H3 prg s0 (h.evs ++ [ev]) kvs h.kept := ((kt.mono ka).mono ka3).more ok.le
  have evd : Dl H3 (xs ++ [evv]) ((h.evs ++ [ev]).map evD) := by rw [List.map_append]; exact (d3.mono k3).append (.cons (dev.mono k3) .nil)
  have tdd : Dl H3 (ys ++ [tv]) ((h.tds ++ [td]).map tdD) := by rw [List.map_append]; exact (d4.mono k3).append (.cons (dt.mono ka3) .nil)
  have su3 : StaAt K H3 u (sAt prg s0 (h.evs ++ [ev]) (h.evs ++ [ev]).length) := by rw [evOk]; exact su.mono ka3
  refine ⟨_, rfl, _, _, rfl, rfl, .inl ⟨_, rfl, ?_⟩⟩
  have ev1 := ok.ev1
  refine ⟨_, rfl, p, dx, hisF pv h.every le lt dk u, _, rfl, j1, rfl, _, _, rfl, rfl, by show (0 : Int) < h.every; omega, rfl, _, rfl, ?_⟩
  rw [dI]
  have em : (((h.evs.length : Int) + 1) % (h.every : Int) = 0) ↔ (h.evs.length + 1) % h.every = 0 := by
    have z : ((h.evs.length : Int) + 1) % (h.every : Int) = (((h.evs.length + 1) % h.every : Nat) : Int) := by rw [Int.natCast_emod]; rfl
    rw [z]
    omega
  have dtv := dt.mono ka3
  by_cases c : (h.evs.length + 1) % h.every = 0
  · refine iT (decide_eq_true (em.mpr c)) ?_
    have fewk : kvs.length ≤ 42 := by rw [kt.len]; have := ok.kl; omega
    refine ⟨_, rfl, _, rfl, p, dx, hisF pv h.every le lt dk u, _, rfl, j1, rfl, _, rfl, _, _, rfl, rfl, dk, _, rfl, DPut.k (k := .inl ((h.evs.length : Int) + 1)) j4 (small' (by omega)), ?_⟩
    have none_ : valV kvs (.inl ((h.evs.length : Int) + 1)) = none := kt.none fun m hm z => by have := ok.le m hm; omega
    have k4 : Kp [p, le, lt, dk] H3 (upd H3 dk (.dK (putK kvs (.inl ((h.evs.length : Int) + 1)) u))) := Kp.refl.wr (by simp) j4
    refine ⟨_, rfl, q1 hpos _ tv td s2 (k3.trans k4) ea (dtv.mono k4) ⟨⟨dx, pv, u, (upd_ne hpdk).trans j1, d1.mono (k3.trans k4), su3.mono k4⟩, ⟨_, (upd_ne hledk).trans j2, evd.mono k4⟩, ⟨_, (upd_ne hltdk).trans j3, tdd.mono k4⟩, ⟨_, upd_same, ?_⟩⟩⟩
    show KAt K _ prg s0 (h.evs ++ [ev]) _ (if (h.evs.length + 1) % h.every = 0 then h.kept ++ [h.evs.length + 1] else h.kept)
    rw [if_pos c]
    have su4 := su3.mono k4
    rw [show (h.evs ++ [ev]).length = h.evs.length + 1 from by rw [List.length_append]; rfl] at su4
    have z := KAt.app su4 (kth.mono k4)
    rw [show kvs ++ [(Sum.inl (((h.evs.length + 1 : Nat) : Int)), u)] = putK kvs (.inl ((h.evs.length : Int) + 1)) u from (putK_new u none_).symm] at z
    exact z
  · refine iF (decide_eq_false fun z => c (em.mp z)) ?_
    refine ⟨_, rfl, q1 hpos H3 tv td s2 k3 ea dtv ⟨⟨dx, pv, u, j1, d1.mono k3, su3⟩, ⟨_, j2, evd⟩, ⟨_, j3, tdd⟩, ⟨kvs, j4, ?_⟩⟩⟩
    show KAt K _ prg s0 (h.evs ++ [ev]) _ (if (h.evs.length + 1) % h.every = 0 then h.kept ++ [h.evs.length + 1] else h.kept)
    rw [if_neg c]
    exact kth
end
end Rk
/-! retroact.history: state_at. -/
namespace Rk
open PySem PySem.Spec PyProof.Rows L2
/-- under a lock that was taken and given back, all stands as before -/
theorem Kp.unlock {H Ha : Hp} {d : Addr} {o : Obj} {u : HO} (e : H d = some u) (mu : Mut (some u)) (k : Kp [] (upd H d (.frz o u)) Ha) : Kp [] H (upd Ha d u) := by
  refine ⟨fun b xs eb => ?_, fun b o2 v eb => ?_, fun b x n eb => ?_, fun b eb => ?_⟩
  · have ne : b ≠ d := fun z => by rw [z, e] at eb; cases eb; exact mu
    rw [upd_ne ne]; exact k.tup b xs ((upd_ne ne).trans eb)
  · have ne : b ≠ d := fun z => by rw [z, e] at eb; cases eb; exact mu
    rw [upd_ne ne]; exact k.frz b o2 v ((upd_ne ne).trans eb)
  · by_cases z : b = d
    · rw [z, upd_same, ← eb, z, e]
    · rw [upd_ne z]; exact k.kp b x n ((upd_ne z).trans eb)
  · by_cases z : b = d
    · rw [z, upd_same] at eb; cases eb
    · rw [upd_ne z] at eb
      have := k.dom b eb
      rw [upd_ne z] at this
      exact this
theorem KAt.at {K : PySem.W.Frag} {H : Hp} {prg : Prg} {s0 : Sta} {evs : List Evt} : ∀ {kvs : List (Key × V)} {ms : List Nat} {i : Nat} {k : Key} {v : V}, KAt K H prg s0 evs kvs ms → kvs[i]? = some (k, v) → ∃ m : Nat, ms[i]? = some m ∧ k = .inl (m : Int)
  | kv :: r, m :: t, 0, k, v, ⟨a, _, _⟩, e => by simp only [List.getElem?_cons_zero] at e ⊢; cases e; exact ⟨m, rfl, a⟩
  | _ :: r, _ :: t, i + 1, k, v, ⟨_, _, c⟩, e => by simp only [List.getElem?_cons_succ] at e ⊢; exact KAt.at c e
  | [], _, _, _, _, _, e => by simp at e
  | _ :: _, [], _, _, _, q, _ => q.elim
section
variable {K : PySem.W.Frag} {mg : Str → Option Value} {P : Program} {w : World} {base : Heap}
def spSt (K : PySem.W.Frag) : Sp := fun vs H Q E => ∃ p le lt dk h prg s0 i, vs = [.ref p, .int i] ∧ HisAt K H prg s0 p le lt dk h ∧ HstOk prg s0 h ∧ PrgOk prg ∧ StaOk prg 100 s0 ∧
  (0 ≤ i ∧ i ≤ h.evs.length → ∀ Ha u, Kp [] H Ha → StaAt K Ha u (sAt prg s0 h.evs i.toNat) → Q u Ha) ∧
  (¬ (0 ≤ i ∧ i ≤ h.evs.length) → ∀ Ha dx, Kp [] H Ha → Ha dx = some (.xd [("moment", .int i)]) → E (.ref (He.ga K "InvalidMoment")) (some dx) Ha)
theorem ok_History_state_at (T : Tx K mg) : FnOk P w K mg base (L2N.CX P w) 27 (He.ma K (He.ga K "History") "state_at") T.fd_History_state_at P_History_state_at (spSt K) := by
  refine T.D_History_state_at.ok sc_History_state_at (fun vs H Q E h => by obtain ⟨p, le, lt, dk, h, prg, s0, i, rfl, _⟩ := h; rfl) fun cdv A outer s H vs Q E hr h => ⟨_, (pss_cons (ps_if (pt_not (pt_chain op_le op_le pe_int (pv 1) (pe_callB call_len_seq (by rfl) T.f_len (by decide +kernel) (pa_cons (pe_fe T.c_History T.n_History__events (pv 0)) pa_nil))))
    (pss_one (ps_raiseE T.e_InvalidMoment.oex T.e_InvalidMoment.init T.e_InvalidMoment.fn (ok_InvalidMoment_init T) (hr.mono (by decide)) T.b_InvalidMoment_init rfl rfl T.g_InvalidMoment (L2N.takes_of rfl rfl rfl rfl) (pv 1)))
    pss_nil)
    (pss_cons (ps_set (i := 2) sc_History_state_at.nd rfl (.inl rfl) (pe_callB (cr_max rfl) (by rfl) T.f_max (by decide +kernel) (pa_cons (pe_lock (pe_lc (own := [("kept", 6)]) rfl sc_History_state_at.nd (pi_keys (pe_fe T.c_History T.n_History__kept (pv 0))) (blkOk_by (own := [("kept", 6)]) (N := N_History_state_at) (sc := defScope sHistory_state_at) (by decide +kernel)) (fun _ _ _ _ _ => (pg_name (i := 6) sc_History_state_at.nd rfl (.inl rfl))) (fun _ _ _ _ _ => (pts_one (pt_cmpR op_le (pv 6) (pv 1) (nomark _)))) (fun _ _ _ _ _ => (pv 6)))) pa_nil)))
    (pss_cons (ps_set (i := 3) sc_History_state_at.nd rfl (.inl rfl) (pe_dget (hu_of hr) (pe_fe T.c_History T.n_History__kept (pv 0)) (pv 2) (fun _ _ => rfl)))
    (pss_cons (ps_for PassesOwn.leaving rfl (pi_range2 rfl T.f_range (pa_cons (pv 2) (pa_cons (pv 1) pa_nil))) (pg_name (i := 4) sc_History_state_at.nd rfl (.inl rfl))
    (pss_one (ps_asg (pe_callS (ok_apply T) hr rfl T.g_apply T.p_apply T.b_apply (fun σ => L2N.passAt (L2N.takes_of rfl rfl rfl rfl) σ) (pa_cons (pe_fe T.c_History T.n_History_program (pv 0)) (pa_cons (pv 3) (pa_cons (pe_ix ix_list (pe_fe T.c_History T.n_History__events (pv 0)) (pv 4) (fun _ _ => rfl)) (pa_cons (pv 4) pa_nil))))) (pg_tup rfl (pgs_cons (pg_name (i := 3) sc_History_state_at.nd rfl (.inl rfl)) (pgs_cons (pg_name (i := 5) sc_History_state_at.nd rfl (.inl rfl)) pgs_nil))))))
    (pss_one (ps_ret (pv 3))))))), ?_⟩
  obtain ⟨p, le, lt, dk, h, prg, s0, i, rfl, a, ok, po, ok0, q1, q2⟩ := h
  obtain ⟨dx, pv, lv, e, d1, d2⟩ := id a.ins
  obtain ⟨xs, e2, d3⟩ := id a.evs
  obtain ⟨kvs, e4, kt⟩ := id a.kept
  have lx : xs.length = h.evs.length := by rw [d3.length, List.length_map]
  have few := ok.few
  refine ⟨_, rfl, _, _, rfl, rfl, _, rfl, ?_⟩
  by_cases i0 : 0 ≤ i
  · refine iT (decide_eq_true i0) ⟨_, rfl, p, dx, _, _, rfl, e, rfl, le, xs, rfl, .inl (SqL.of e2), _, _, rfl, rfl, _, rfl, ?_⟩
    rw [lx]
    by_cases i1 : i ≤ (h.evs.length : Int)
    · refine iF (nT i1) ?_
      refine ⟨dk, _, e4, True.intro, fun od => ?_⟩
      have fz : (upd H dk (.frz od (.dK kvs))) p = some (.ins (He.ga K "History") dx (hisF pv h.every le lt dk lv)) := (upd_ne (ne_of e e4 fun z => nomatch z)).trans e
      refine ⟨_, rfl, p, dx, _, _, rfl, fz, rfl, dk, od, rfl, .inl ⟨kvs, upd_same, fun L nL => ?_⟩⟩
      have hLd : dk ≠ L := ne_of_none (H := upd H dk (.frz od (.dK kvs))) upd_same nL
      refine lc_it walk_keys (fun j Hb => Kp [] (upd H dk (.frz od (.dK kvs))) Hb ∧ Hb L = some (.lst ((((h.kept.take j).map fun m : Nat => (m : Int)).filter fun m => decide (m ≤ i)).map V.int))) ⟨Kp.refl.new nL, upd_same⟩ (fun j Hb _ pj => pj.1.frz _ _ _ upd_same) (fun j x Hb Hc jl ⟨kb, eL⟩ ⟨eH, k, v, hk, ex⟩ => ?_) fun Hb ⟨kb, eL⟩ => ?_
      · subst eH
        obtain ⟨m, hm, rfl⟩ := kt.at hk
        subst ex
        have ft : ∀ b : Bool, decide ((m : Int) ≤ i) = b → (((h.kept.take (j + 1)).map fun m : Nat => (m : Int)).filter fun m => decide (m ≤ i)) = (((h.kept.take j).map fun m : Nat => (m : Int)).filter fun m => decide (m ≤ i)) ++ (if b = true then [(m : Int)] else []) := fun b hb => by
          rw [List.take_add_one, hm, List.map_append, List.filter_append]
          congr 1
          show List.filter _ [(m : Int)] = _
          rw [List.filter_cons, hb]
          rfl
        have ll : (((h.kept.take j).map fun m : Nat => (m : Int)).filter fun m => decide (m ≤ i)).length ≤ 50 := by
          refine Nat.le_trans (List.length_filter_le _ _) ?_
          rw [List.length_map, List.length_take]
          have := ok.kl
          omega
        refine ⟨rfl, _, rfl, _, rfl, _, _, rfl, rfl, _, rfl, ?_⟩
        cases hc : decide ((m : Int) ≤ i) with
        | true =>
          refine iT rfl ⟨_, rfl, _, eL, by rw [List.length_map]; exact small' (by omega), kb.own ?_, ?_⟩
          · exact nL
          · rw [upd_same, ft true hc, List.map_append]; rfl
        | false =>
          refine iF rfl ⟨kb, ?_⟩
          rw [ft false hc]
          simpa using eL
      · rw [kt.len, List.take_length] at eL
        refine ⟨kb.frz _ _ _ upd_same, L, _, rfl, SqL.of ((upd_ne (Ne.symm hLd)).trans eL), ?_, fun m hm mx => ?_⟩
        · refine List.length_pos_of_mem (a := (0 : Int)) (List.mem_filter.mpr ⟨List.mem_map.mpr ⟨0, ok.z, rfl⟩, decide_eq_true i0⟩)
        · obtain ⟨hm1, hm2⟩ := List.mem_filter.mp hm
          obtain ⟨k0, hk0, rfl⟩ := List.mem_map.mp hm1
          have km : (k0 : Int) ≤ i := of_decide_eq_true hm2
          have kx : Kp [] H (upd Hb dk (.dK kvs)) := Kp.unlock e4 True.intro kb
          revert kx
          generalize upd Hb dk (.dK kvs) = Hx
          intro kx
          obtain ⟨dx2, pv2, lv2, f1, f2, f3⟩ := (a.keep kx).ins
          obtain ⟨kvs2, g1, g2⟩ := (a.keep kx).kept
          obtain ⟨u, hu, su⟩ := g2.get hk0
          refine ⟨_, rfl, p, dx2, _, _, rfl, f1, rfl, _, rfl, dk, u, rfl, ?_, ?_⟩
          · have q := DGet.k (k := .inl (k0 : Int)) g1
            rw [hu] at q
            exact q
          refine ⟨_, rfl, _, rfl, (k0 : Int), i, rfl, ⟨by omega, by omega, by omega, by omega⟩, for_range (lo := (k0 : Int)) (n := (i - (k0 : Int)).toNat) (fun j σ Hc => ∃ u t4 t5, σ = [some (.ref p), some (.int i), some (.int (k0 : Int)), some u, t4, t5, none] ∧ Kp [] H Hc ∧ StaAt K Hc u (sAt prg s0 h.evs (k0 + j))) ⟨u, none, none, rfl, kx, su⟩ (fun j σ Hc jl ⟨u, t4, t5, eσ, kc, su⟩ => ?_) fun σ Hc ⟨u, t4, t5, eσ, kc, su⟩ => ?_⟩
          · subst eσ
            have ac := a.keep kc
            obtain ⟨dx3, pv3, lv3, h1, h2, h3⟩ := ac.ins
            obtain ⟨xs3, e3, d3'⟩ := ac.evs
            have jn : k0 + j < h.evs.length := by omega
            obtain ⟨ev, hev⟩ : ∃ e, h.evs[k0 + j]? = some e := ⟨h.evs[k0 + j], List.getElem?_eq_getElem jn⟩
            obtain ⟨evv, hevv, dev⟩ := d3'.at (d := evD ev) (i := k0 + j) (by rw [List.getElem?_map, hev]; rfl)
            obtain ⟨pos, eo⟩ := ok.evs _ _ hev
            have em : ((k0 : Int) + (j : Int)) = ((k0 + j : Nat) : Int) := by omega
            refine ⟨_, rfl, p, dx3, _, _, rfl, h1, rfl, _, rfl, _, rfl, p, dx3, _, _, rfl, h1, rfl, _, rfl, le, xs3, _, evv, rfl, rfl, SqL.of e3, by rw [em]; exact atI_nat hevv, _, rfl, pv3, u, evv, ((k0 : Int) + (j : Int)), prg, sAt prg s0 h.evs (k0 + j), ev, 100 * (k0 + j + 1), rfl, h2.1, su, dev, po, sAt_ok po ok0 ok.evs (by omega) _ (by omega), by omega, eo, fun _ Hd t u2 tv s2 td kd ea et sd dt => ?_, fun np => ?_⟩
            · rw [em] at ea
              have es : sAt prg s0 h.evs (k0 + (j + 1)) = s2 := sAt_succ hev ea
              refine ⟨t, _, rfl, SqT.of et, rfl, _, _, rfl, _, _, rfl, rfl, u2, _, _, rfl, kc.trans kd, ?_⟩
              rw [es]
              exact sd
            · rw [pos] at np; cases np
          · subst eσ
            rw [show k0 + (i - (k0 : Int)).toNat = i.toNat from by omega] at su
            exact ⟨_, rfl, q1 ⟨i0, i1⟩ Hc u kc su⟩
    · refine iT (nF i1) ?_
      exact ⟨_, rfl, fun Hb dx' kb eb => q2 (fun z => i1 z.2) Hb dx' kb eb⟩
  · refine iF (decide_eq_false i0) ⟨_, rfl, iT rfl ?_⟩
    exact ⟨_, rfl, fun Hb dx' kb eb => q2 (fun z => i0 z.1) Hb dx' kb eb⟩
end
end Rk
/-! retroact.history: cut. -/
namespace Rk
open PySem PySem.Spec PyProof.Rows L2
def Hst.add (h : Hst) (ev : Evt) (td : Td) : Hst := { h with evs := h.evs ++ [ev], tds := h.tds ++ [td], kept := if (h.evs.length + 1) % h.every = 0 then h.kept ++ [h.evs.length + 1] else h.kept }
theorem HstOk.add {prg : Prg} {s0 : Sta} {h : Hst} {ev : Evt} {td : Td} {s2 : Sta} (ok : HstOk prg s0 h) (few : h.evs.length < 40) (pos : isPos prg (sAt prg s0 h.evs h.evs.length) ev = true) (eo : EvtOk ev) (ea : applyW prg (sAt prg s0 h.evs h.evs.length) h.evs.length ev = some (s2, td)) : HstOk prg s0 (h.add ev td) := by
  have l : (h.evs ++ [ev]).length = h.evs.length + 1 := by rw [List.length_append]; rfl
  refine ⟨ok.ev1, ok.ev9, by show (h.evs ++ [ev]).length ≤ 40; omega, ok.evs.app pos eo, ok.tds.app ea, fun m hm => ?_, ?_, ?_, ?_⟩
  · show m ≤ (h.evs ++ [ev]).length
    rw [l]
    change m ∈ (if (h.evs.length + 1) % h.every = 0 then h.kept ++ [h.evs.length + 1] else h.kept) at hm
    split at hm
    · rcases List.mem_append.mp hm with q | q
      · have := ok.le m q; omega
      · rw [List.mem_singleton.mp q]; exact Nat.le_refl _
    · have := ok.le m hm; omega
  · show 0 ∈ (if (h.evs.length + 1) % h.every = 0 then h.kept ++ [h.evs.length + 1] else h.kept)
    split
    · exact List.mem_append_left _ ok.z
    · exact ok.z
  · show (if (h.evs.length + 1) % h.every = 0 then h.kept ++ [h.evs.length + 1] else h.kept).Nodup
    split
    · refine List.nodup_append.mpr ⟨ok.nd, by simp, fun a ha b hb e => ?_⟩
      rw [List.mem_singleton] at hb
      have := ok.le a ha
      omega
    · exact ok.nd
  · show (if (h.evs.length + 1) % h.every = 0 then h.kept ++ [h.evs.length + 1] else h.kept).length ≤ (h.evs ++ [ev]).length + 1
    rw [l]
    have := ok.kl
    split
    · rw [List.length_append]; simp only [List.length_cons, List.length_nil]; omega
    · omega
theorem hst0_ok {prg : Prg} {s0 : Sta} {ev : Nat} {v : V} (h1 : 1 ≤ ev) (h9 : ev ≤ 100) : HstOk prg s0 ⟨ev, [], [], [0], v⟩ :=
  ⟨h1, h9, Nat.zero_le _, fun i e h => by simp at h, ⟨rfl, fun i e h => by simp at h⟩, fun m hm => by rw [List.mem_singleton.mp hm]; exact Nat.zero_le _, List.mem_singleton.mpr rfl, by simp, by simp⟩
theorem cut_to (xs : List V) {i : Int} (h : 0 ≤ i) : cutV xs none (some i) = xs.take i.toNat := by
  unfold cutV
  have e0 : HT.sIx xs.length 0 none = 0 := rfl
  have e1 : HT.sIx xs.length xs.length (some i) = min i.toNat xs.length := by
    show (if i < 0 then (i + (xs.length : Int)).toNat else min i.toNat xs.length) = _
    rw [if_neg (by omega)]
  rw [e0, e1, List.drop_zero, Nat.sub_zero]
  by_cases l : i.toNat ≤ xs.length
  · rw [Nat.min_eq_left l]
  · rw [Nat.min_eq_right (by omega), List.take_of_length_le (Nat.le_refl _), List.take_of_length_le (by omega)]
section
variable {K : PySem.W.Frag} {mg : Str → Option Value} {P : Program} {w : World} {base : Heap}
def spCt (K : PySem.W.Frag) : Sp := fun vs H Q E => ∃ p le lt dk h prg s0 i a, vs = [.ref p, .int i] ∧ HisAt K H prg s0 p le lt dk h ∧ HstOk prg s0 h ∧ PrgOk prg ∧ FstOk prg s0 a ∧
  (0 ≤ i ∧ i ≤ h.evs.length → ∀ Ha x le2 lt2 dk2 h2, Kp [] H Ha → HisAt K Ha prg s0 x le2 lt2 dk2 h2 → HstOk prg s0 h2 → h2.evs = h.evs.take i.toNat → Q (.ref x) Ha) ∧
  (¬ (0 ≤ i ∧ i ≤ h.evs.length) → ∀ Ha dx, Kp [] H Ha → Ha dx = some (.xd [("moment", .int i)]) → E (.ref (He.ga K "InvalidMoment")) (some dx) Ha)
theorem FstOk.ok {prg : Prg} {s0 : Sta} {a : Act} (po : PrgOk prg) (f : FstOk prg s0 a) : StaOk prg 100 s0 := by rw [f.s0]; exact firstSta_ok po f.ha
theorem ok_History_cut (T : Tx K mg) : FnOk P w K mg base (L2N.CX P w) 28 (He.ma K (He.ga K "History") "cut") T.fd_History_cut P_History_cut (spCt K) := by
  obtain ⟨mv, be⟩ := T.be_History_init
  refine T.D_History_cut.ok sc_History_cut (fun vs H Q E h => by obtain ⟨p, le, lt, dk, h, prg, s0, i, a, rfl, _⟩ := h; rfl) fun cdv A outer s H vs Q E hr h => ⟨_, (pss_cons (ps_if (pt_not (pt_chain op_le op_le pe_int (pv 1) (pe_callB call_len_seq (by rfl) T.f_len (by decide +kernel) (pa_cons (pe_fe T.c_History T.n_History__events (pv 0)) pa_nil))))
    (pss_one (ps_raiseE T.e_InvalidMoment.oex T.e_InvalidMoment.init T.e_InvalidMoment.fn (ok_InvalidMoment_init T) (hr.mono (by decide)) T.b_InvalidMoment_init rfl rfl T.g_InvalidMoment (L2N.takes_of rfl rfl rfl rfl) (pv 1)))
    pss_nil)
    (pss_cons (ps_set (i := 2) sc_History_cut.nd rfl (.inl rfl) (pe_makeK T.k_History (ok_History_init T) (hr.mono (by decide)) rfl T.g_History be pass0 (pa_cons (pe_fe T.c_History T.n_History_program (pv 0)) pa_nil) (pk_cons (pe_fe T.c_History T.n_History__every (pv 0)) pk_nil)))
    (pss_cons (ps_for PassesOwn.leaving rfl (pi_list (pe_slice sl_list (pe_fe T.c_History T.n_History__events (pv 0)) po_none (po_some (pv 1)))) (pg_name (i := 3) sc_History_cut.nd rfl (.inl rfl))
    (pss_one (ps_expr (pe_meR (pv 2) T.c_History T.m_History_record (ok_History_record T) hr T.b_History_record (fun σ => L2N.passAt (L2N.takes_of rfl rfl rfl rfl) σ) (pa_cons (pv 3) pa_nil)))))
    (pss_one (ps_ret (pv 2)))))), ?_⟩
  obtain ⟨p, le, lt, dk, h, prg, s0, i, act, rfl, a, ok, po, fo, q1, q2⟩ := h
  obtain ⟨dx, pv, lv, e, d1, d2⟩ := id a.ins
  obtain ⟨xs, e2, d3⟩ := id a.evs
  have lx : xs.length = h.evs.length := by rw [d3.length, List.length_map]
  have few := ok.few
  have ok0 := fo.ok po
  refine ⟨_, rfl, _, _, rfl, rfl, _, rfl, ?_⟩
  by_cases i0 : 0 ≤ i
  · refine iT (decide_eq_true i0) ⟨_, rfl, p, dx, _, _, rfl, e, rfl, le, xs, rfl, .inl (SqL.of e2), _, _, rfl, rfl, _, rfl, ?_⟩
    rw [lx]
    by_cases i1 : i ≤ (h.evs.length : Int)
    · refine iF (nT i1) ?_
      refine ⟨_, rfl, p, dx, _, _, rfl, e, rfl, _, rfl, p, dx, _, _, rfl, e, rfl, rfl, rfl, fun x dxx nx ndx ne => ?_⟩
      have k0 : Kp [] H (upd (upd H dxx (.own x)) x (.ins (He.ga K "History") dxx [])) := (Kp.refl.new ndx).own nx
      refine ⟨x, dxx, pv, h.every, prg, s0, act, rfl, upd_same, d1.1.mono k0, po, fo, fun H1 le2 lt2 dk2 k1 a1 n1 n2 n3 hll => ⟨rfl, ?_⟩⟩
      have k2 : Kp [] H H1 := k0.sub k1 fun a m => .inr (by rw [List.mem_singleton.mp m]; exact nx)
      obtain ⟨dx3, pv3, lv3, h1, h2, h3⟩ := (a.keep k2).ins
      obtain ⟨xs3, e3, d3'⟩ := (a.keep k2).evs
      have lx3 : xs3.length = h.evs.length := by rw [d3'.length, List.length_map]
      refine ⟨_, rfl, p, dx3, _, _, rfl, h1, rfl, _, rfl, i, rfl, le, xs3, rfl, SqL.of e3, fun l nl => ?_⟩
      rw [cut_to xs3 i0]
      have hlx : l ∉ [x, le2, lt2, dk2] := fun m => by
        obtain ⟨_, _, _, z1, _⟩ := a1.ins
        obtain ⟨_, z2, _⟩ := a1.evs
        obtain ⟨_, z3, _⟩ := a1.tds
        obtain ⟨_, z4, _⟩ := a1.kept
        simp only [List.mem_cons, List.not_mem_nil, or_false] at m
        rcases m with rfl | rfl | rfl | rfl
        · rw [nl] at z1; cases z1
        · rw [nl] at z2; cases z2
        · rw [nl] at z3; cases z3
        · rw [nl] at z4; cases z4
      have kl : Kp [] H1 (upd H1 l (.lst (xs3.take i.toNat))) := Kp.refl.new nl
      refine ⟨l, rfl, ⟨_, SqL.of upd_same⟩, for_list (xs := xs3.take i.toNat) (fun j σ Hc => ∃ tv h2, σ = [some (.ref p), some (.int i), some (.ref x), tv] ∧ Kp [] H Hc ∧ Hc l = some (.lst (xs3.take i.toNat)) ∧ HisAt K Hc prg s0 x le2 lt2 dk2 h2 ∧ HstOk prg s0 h2 ∧ h2.evs = h.evs.take j) ⟨none, _, rfl, k2.trans kl, upd_same, a1.keep kl, hst0_ok ok.ev1 ok.ev9, rfl⟩ (fun j σ Hc _ ⟨_, _, _, _, el, _⟩ => SqL.of el) (fun j xv σ Hc hx ⟨tv, h2', eσ, kc, el, a2, ok2, ee⟩ => ?_) fun σ Hc ⟨tv, h2', eσ, kc, el, a2, ok2, ee⟩ => ?_⟩
      · subst eσ
        have jl : j < (xs3.take i.toNat).length := (List.getElem?_eq_some_iff.mp hx).1
        rw [List.length_take, lx3] at jl
        rw [List.getElem?_take_of_lt (by omega)] at hx
        obtain ⟨de, hde, dv⟩ := d3'.at' hx
        rw [List.getElem?_map] at hde
        obtain ⟨ev, hev, rfl⟩ : ∃ ev, h.evs[j]? = some ev ∧ evD ev = de := by
          cases q : h.evs[j]? with
          | none => rw [q] at hde; cases hde
          | some e => rw [q] at hde; exact ⟨e, rfl, Option.some.inj hde⟩
        obtain ⟨pos, eo⟩ := ok.evs j ev hev
        have l2 : h2'.evs.length = j := by rw [ee, List.length_take]; omega
        have eS : sAt prg s0 h2'.evs h2'.evs.length = sAt prg s0 h.evs j := by rw [l2, ee, sAt_take (by omega) (by omega)]
        obtain ⟨dx5, pv5, lv5, g1, g2, g3⟩ := a2.ins
        have k1c : Kp [] H1 Hc → True := fun _ => trivial
        have dvc : Di Hc xv (evD ev) := by
          obtain ⟨de2, hde2, dv2⟩ := d3.at' (i := j) (x := xv) (by
            obtain ⟨kk, hkk, _⟩ := d3.at (d := evD ev) (i := j) (by rw [List.getElem?_map, hev]; rfl)
            have e22 := k2.same _ _ e2
            rw [e3] at e22
            cases e22
            exact hx)
          rw [List.getElem?_map, hev] at hde2
          cases hde2
          exact dv2.mono kc
        refine ⟨_, rfl, x, dx5, _, rfl, .inl g1, rfl, _, rfl, x, le2, lt2, dk2, h2', prg, s0, xv, ev, rfl, a2, hll, ok2, by omega, po, ok0, dvc, eo, fun ps Hd tv2 td s2 kd ea dt a3 => ?_, fun np => ?_⟩
        · refine ⟨_, h2'.add ev td, rfl, kc.sub kd fun b m => ?_, kd.kp _ _ hlx el, a3, ok2.add (by omega) ps eo ea, ?_⟩
          · simp only [List.mem_cons, List.not_mem_nil, or_false] at m
            rcases m with rfl | rfl | rfl | rfl
            · exact .inr nx
            · exact .inr (k0.dom _ n1)
            · exact .inr (k0.dom _ n2)
            · exact .inr (k0.dom _ n3)
          · show h2'.evs ++ [ev] = _
            rw [ee, List.take_add_one, hev]; rfl
        · rw [eS, pos] at np; cases np
      · subst eσ
        rw [List.length_take, lx3] at ee
        exact ⟨_, rfl, q1 ⟨i0, i1⟩ Hc x le2 lt2 dk2 h2' kc a2 ok2 (by rw [ee, show min i.toNat h.evs.length = i.toNat from by omega])⟩
    · refine iT (nF i1) ?_
      exact ⟨_, rfl, fun Hb dx' kb eb => q2 (fun z => i1 z.2) Hb dx' kb eb⟩
  · refine iF (decide_eq_false i0) ⟨_, rfl, iT rfl ?_⟩
    exact ⟨_, rfl, fun Hb dx' kb eb => q2 (fun z => i0 z.1) Hb dx' kb eb⟩
end
end Rk
/-! retroact.history: states_of. -/
namespace Rk
open PySem PySem.Spec PyProof.Rows L2
section
variable {K : PySem.W.Frag} {mg : Str → Option Value} {P : Program} {w : World} {base : Heap}
/-- states in a row: the i-th is the state at moment i -/
def SsAt (K : PySem.W.Frag) (H : Hp) (prg : Prg) (s0 : Sta) (evs : List Evt) (xs : List V) : Prop := ∀ j u, xs[j]? = some u → StaAt K H u (sAt prg s0 evs j)
theorem SsAt.mono {L : List Addr} {H Ha : Hp} {prg : Prg} {s0 : Sta} {evs : List Evt} {xs : List V} (h : SsAt K H prg s0 evs xs) (k : Kp L H Ha) : SsAt K Ha prg s0 evs xs := fun j u e => (h j u e).mono k
theorem SsAt.add {H : Hp} {prg : Prg} {s0 : Sta} {evs : List Evt} {xs : List V} {u : V} (h : SsAt K H prg s0 evs xs) (hu : StaAt K H u (sAt prg s0 evs xs.length)) : SsAt K H prg s0 evs (xs ++ [u]) := fun j v e => by
  by_cases l : j < xs.length
  · rw [List.getElem?_append_left l] at e; exact h j v e
  · have lj : j < (xs ++ [u]).length := (List.getElem?_eq_some_iff.mp e).1
    rw [List.length_append] at lj
    simp only [List.length_cons, List.length_nil] at lj
    have ej : j = xs.length := by omega
    subst ej
    rw [List.getElem?_append_right (Nat.le_refl _), Nat.sub_self, List.getElem?_cons_zero] at e
    cases e
    exact hu
def spSo (K : PySem.W.Frag) : Sp := fun vs H Q _ => ∃ v le prg s0 a evs ex, vs = [v, .ref le] ∧ PrgAt K H v prg ∧ PrgOk prg ∧ FstOk prg s0 a ∧ EvsOk prg s0 evs ∧ evs.length ≤ 40 ∧ (∀ Ha, Kp [] H Ha → SqL K Ha le ex) ∧ Dl H ex (evs.map evD) ∧
  ∀ Ha l xs, Kp [] H Ha → H l = none → Ha l = some (.lst xs) → xs.length = evs.length + 1 → SsAt K Ha prg s0 evs xs → Q (.ref l) Ha
theorem ok_states_of (T : Tx K mg) : FnOk P w K mg base (L2N.CX P w) 27 (He.ga K "states_of") T.fd_states_of P_states_of (spSo K) := by
  refine T.D_states_of.ok sc_states_of (fun vs H Q E h => by obtain ⟨v, le, prg, s0, a, evs, ex, rfl, _⟩ := h; rfl) fun cdv A outer s H vs Q E hr h => ⟨_, (pss_cons (ps_set (i := 2) sc_states_of.nd rfl (.inl rfl) (pe_lst (pa_cons (pe_callS (ok_first_state T) (hr.mono (by decide)) rfl T.g_first_state T.p_first_state T.b_first_state (fun σ => L2N.passAt (L2N.takes_of rfl rfl rfl rfl) σ) (pa_cons (pv 0) pa_nil)) pa_nil)))
    (pss_cons (ps_for PassesOwn.leaving rfl (pi_enum (by rfl) T.f_enumerate (pa_cons (pv 1) pa_nil)) (pg_tup rfl (pgs_cons (pg_name (i := 3) sc_states_of.nd rfl (.inl rfl)) (pgs_cons (pg_name (i := 4) sc_states_of.nd rfl (.inl rfl)) pgs_nil)))
    (pss_cons (ps_asg (pe_callS (ok_apply T) hr rfl T.g_apply T.p_apply T.b_apply (fun σ => L2N.passAt (L2N.takes_of rfl rfl rfl rfl) σ) (pa_cons (pv 0) (pa_cons (pe_ix ix_list (pv 2) (pe_un un_neg pe_int) (fun _ _ => rfl)) (pa_cons (pv 4) (pa_cons (pv 3) pa_nil))))) (pg_tup rfl (pgs_cons (pg_name (i := 5) sc_states_of.nd rfl (.inl rfl)) (pgs_cons (pg_name (i := 6) sc_states_of.nd rfl (.inl rfl)) pgs_nil))))
    (pss_one (ps_expr (pe_bm PySem.F.plainAttrs_list PySem.F.slot_list_append PySem.F.type_list_append mt_append (pv 2) (pa_cons (pv 5) pa_nil))))))
    (pss_one (ps_ret (pv 2))))), ?_⟩
  obtain ⟨v, le, prg, s0, a, evs, ex, rfl, hp, po, fo, ev, few, hl, dex, q⟩ := h
  have ok0 := fo.ok po
  have lex : ex.length = evs.length := by rw [dex.length, List.length_map]
  refine ⟨_, rfl, v, prg, a, rfl, hp, fo.a0, fo.ha, po.acts _ _ fo.ha, fo.np, fun H1 u k1 su => ⟨by show 1 ≤ sizeLine; decide, fun l nl => ?_⟩⟩
  rw [← fo.s0] at su
  have nlH := k1.dom _ nl
  have kl := k1.new (o := .lst [u]) nl
  refine ⟨_, rfl, le, ex, rfl, hl _ kl, for_it walk_enum (fun i σ Hc => ∃ t3 t4 t5 t6 xs, σ = [some v, some (.ref le), some (.ref l), t3, t4, t5, t6] ∧ Kp [] H Hc ∧ Hc l = some (.lst xs) ∧ xs.length = i + 1 ∧ SsAt K Hc prg s0 evs xs) ⟨none, none, none, none, [u], rfl, kl, upd_same, rfl, fun j x e => ?_⟩ (fun i σ Hc _ ⟨_, _, _, _, _, _, k, _⟩ => hl _ k) (fun i x σ Hc Hd il ⟨t3, t4, t5, t6, xs, eσ, kc, el, lx, ss⟩ y => ?_) fun σ Hc ⟨t3, t4, t5, t6, xs, eσ, kc, el, lx, ss⟩ => ?_⟩
  · cases j with
    | zero => simp only [List.getElem?_cons_zero] at e; cases e; exact su.mono (Kp.refl (L := []).new nl)
    | succ j => simp at e
  · subst eσ
    obtain ⟨T', x1, y1, ex1, nT, eH, e1, e2⟩ := y
    subst ex1 eH
    cases e1
    obtain ⟨de, hde, dv⟩ := dex.at' e2
    rw [List.getElem?_map] at hde
    obtain ⟨ev1, hev, rfl⟩ : ∃ ev, evs[i]? = some ev ∧ evD ev = de := by
      cases q : evs[i]? with
      | none => rw [q] at hde; cases hde
      | some e => rw [q] at hde; exact ⟨e, rfl, Option.some.inj hde⟩
    obtain ⟨pos, eo⟩ := ev i ev1 hev
    have hlT : l ≠ T' := ne_of_none el nT
    have kT : Kp [] Hc (upd Hc T' (.tup [.int (i : Nat), y1])) := Kp.refl.new nT
    have el2 := kT.same _ _ el
    obtain ⟨u2, hu2⟩ : ∃ u, xs[i]? = some u := ⟨xs[i]'(by omega), List.getElem?_eq_getElem (by omega)⟩
    have su2 := (ss i u2 hu2).mono kT
    refine ⟨T', _, rfl, SqT.of upd_same, rfl, _, _, rfl, _, _, rfl, rfl, ?_⟩
    have last : atI xs (-1) = some u2 := by
      obtain ⟨ys, y, rfl⟩ : ∃ ys y, xs = ys ++ [y] := (List.eq_nil_or_concat xs).elim (fun z => by rw [z] at lx; cases lx) fun ⟨ys, y, z⟩ => ⟨ys, y, by rw [z, List.concat_eq_append]⟩
      rw [List.length_append] at lx
      simp only [List.length_cons, List.length_nil] at lx
      rw [List.getElem?_append_right (by omega), show i - ys.length = 0 from by omega, List.getElem?_cons_zero] at hu2
      cases hu2
      exact atI_last ys _
    refine ⟨_, rfl, _, rfl, _, rfl, l, xs, _, u2, rfl, rfl, SqL.of el2, last, _, rfl, _, rfl, v, u2, y1, (i : Nat), prg, sAt prg s0 evs i, ev1, 100 * (i + 1), rfl, hp.mono (kc.trans kT), su2, dv.mono (kc.trans kT), po, sAt_ok po ok0 ev (by omega) i (by omega), by omega, eo, fun _ He t u3 tv s2 td ke ea et sd dt => ?_, fun np => ?_⟩
    · have es : sAt prg s0 evs (i + 1) = s2 := sAt_succ hev ea
      have el3 := ke.same _ _ el2
      refine ⟨t, _, rfl, SqT.of et, rfl, _, _, rfl, _, _, rfl, rfl, ?_⟩
      refine ⟨_, rfl, .inl ⟨rfl, _, SqL.of el3⟩, _, rfl, l, xs, u3, rfl, rfl, el3, by rw [lx]; exact small' (by omega), ?_⟩
      have kall := (kc.trans kT).trans ke
      have kw : Kp [l] He (upd He l (.lst (xs ++ [u3]))) := Kp.refl.wr (by simp) el3
      refine ⟨_, _, _, _, xs ++ [u3], rfl, kall.own nlH, upd_same, by rw [List.length_append, lx]; rfl, ?_⟩
      refine SsAt.add (((ss.mono kT).mono ke).mono kw) ?_
      rw [lx, es]
      exact sd.mono kw
    · rw [pos] at np; cases np
  · subst eσ
    exact ⟨_, rfl, q Hc l xs kc nlH el (by rw [lx, lex]) ss⟩
end
end Rk
/-! == and != of values that are equal: lists and tuples within one another. -/
namespace Rk
open PySem PySem.Spec PyProof.Rows L2
section
variable {prog : Program} {w : World}
open SeqAt AutoSeq1 MeetsSeq MeetsSeq2 MeetsSeq3 in
theorem eq_same_tuples (l b : Addr) (xs ys : Array Value) (n m : Nat) (dl db : Option Addr) (sl sb : Array (Option Value)) (len : xs.size = ys.size) :
    MeetsIn prog w (Builtin.«tuple.__eq__» ⟨[.ref l, .ref b], []⟩) (fun A R s => s.heap.get? l = some { cls := .type "tuple", dict := dl, data := .seq xs n, slots := sl } ∧ s.heap.get? b = some { cls := .type "tuple", dict := db, data := .seq ys m, slots := sb } ∧
      (∀ (j : Nat) (u v : Value), xs[j]? = some u → ys[j]? = some v → SeqAt.EqP prog w A.in1 s u v true) ∧ R (.ok (.ret (.bool true))) s) :=
  .of_wp fun A R s h => by
    obtain ⟨hp, gs, dn, tk, os⟩ := s; obtain ⟨gl, gb, eqs, fin⟩ := h
    have sub := AutoSeq1.sub_tuple_tuple
    wp_walk using wpAny_loadPart' gl, wpAny_loadPart' gb, wpAny_forIn_list _ (fun rest z t => z.1 = none ∧ t = ⟨hp, gs, dn, tk, os⟩ ∧ ∃ i, rest = (xs.toList.zip ys.toList).drop i) _
    case turn =>
      rintro ⟨u, v⟩ rest z t ⟨hz, rfl, i, cut⟩
      have at_ : (xs.toList.zip ys.toList)[i]? = some (u, v) := by rw [← List.head?_drop, ← cut]; rfl
      obtain ⟨hu, hv⟩ := List.getElem?_zip_eq_some.mp at_
      have rest_ : rest = (xs.toList.zip ys.toList).drop (i + 1) := by rw [← List.tail_drop, ← cut]; rfl
      refine wpAny_bind (eqs i u v (by simpa using hu) (by simpa using hv) _ _ ?_)
      wp_walk
      exact ⟨rfl, rfl, i + 1, rest_⟩
    case fin =>
      rintro ⟨z1, z2⟩ t ⟨hz, rfl, i, cut⟩
      simp only at hz
      subst hz
      wp_walk
      exact ⟨_, rfl, by simpa [Builtin.Tuple.tupleCompareSizes, bne, len] using fin⟩
    case h =>
      exact ⟨rfl, rfl, 0, rfl⟩
open SeqAt AutoSeq1 MeetsSeq MeetsSeq2 MeetsSeq3 in
theorem ne_loop_same (l b : Addr) (items items2 : Array Value) (n n2 : Nat) (dd dd2 : Option Addr) (sl sl2 : Array (Option Value)) (hsz : items.size = items2.size) (k : Nat) :
    ∀ i : Nat, items.size - i = k → MeetsIn prog w (Builtin.«list.__eq__.loop» ⟨[.ref l, .ref b, rawInt i, rawInt 3], []⟩)
      (fun A R s => s.heap.get? l = some { cls := .type "list", dict := dd, data := .seq items n, slots := sl } ∧ s.heap.get? b = some { cls := .type "list", dict := dd2, data := .seq items2 n2, slots := sl2 } ∧
        (∀ j (h1 : j < items.size) (h2 : j < items2.size), EqP prog w A.in1 s items[j] items2[j] true) ∧ R (.ok (.ret (.bool false))) s) := by
  induction k with
  | zero =>
    intro i hk A R s h
    obtain ⟨hp, g, d, tk, os⟩ := s; obtain ⟨hl, hb, he, h⟩ := h
    wp_walk using wpAny_loadPart' hl, wpAny_loadPart' hb
    have hi1 : items[((i : Nat) : Int).toNat]? = none := by simp; omega
    have hi2 : items2[((i : Nat) : Int).toNat]? = none := by simp; omega
    rw [hi1, hi2]
    wp_walk using wpAny_loadPart' hl, wpAny_loadPart' hb
    show R (.ok (.ret (.bool (items.size != items2.size)))) _
    rw [hsz]
    simpa using h
  | succ k ih =>
    intro i hk A R s h
    obtain ⟨hp, g, d, tk, os⟩ := s; obtain ⟨hl, hb, he, h⟩ := h
    wp_walk using wpAny_loadPart' hl, wpAny_loadPart' hb
    have hlt : i < items.size := by omega
    have hlt2 : i < items2.size := by omega
    have hi1 : items[((i : Nat) : Int).toNat]? = some items[i] := by simp [hlt]
    have hi2 : items2[((i : Nat) : Int).toNat]? = some items2[i] := by simp [hlt2]
    have hc : ((i : Int) + 1) = ((i + 1 : Nat) : Int) := by push_cast; rfl
    rw [hi1, hi2]
    refine wpAny_bind (he i hlt hlt2 _ _ ?_)
    wp_walk
    rw [hc]
    exact ⟨plainId_quiet plain_eq_loop _, codeAny_builtin entry_eq_loop (by
      rw [Around.under_plainId plain_eq_loop _]
      exact ih (i + 1) (by omega) A R _ ⟨hl, hb, he, h⟩)⟩
open SeqAt AutoSeq1 MeetsSeq MeetsSeq2 MeetsSeq3 in
theorem ne_same_lists (l b : Addr) (items items2 : Array Value) (n n2 : Nat) (dd dd2 : Option Addr) (sl sl2 : Array (Option Value)) (hsz : items.size = items2.size) :
    MeetsIn prog w (Builtin.«list.__ne__» ⟨[.ref l, .ref b], []⟩)
      (fun A R s => s.heap.get? l = some { cls := .type "list", dict := dd, data := .seq items n, slots := sl } ∧ s.heap.get? b = some { cls := .type "list", dict := dd2, data := .seq items2 n2, slots := sl2 } ∧
        (∀ j (h1 : j < items.size) (h2 : j < items2.size), EqP prog w A.in1 s items[j] items2[j] true) ∧ R (.ok (.ret (.bool false))) s) := by
  intro A R s h
  obtain ⟨hp, g, d, tk, os⟩ := s; obtain ⟨hl, hb, he, h⟩ := h
  have f3 := AutoSeq1.sub_list_list
  have hne : ¬ (items.size != items2.size) = true := by simp [hsz]
  wp_walk using wpAny_loadPart' hl, wpAny_loadPart' hb
  exact ⟨plainId_quiet plain_eq_loop _, codeAny_builtin entry_eq_loop (by
    rw [Around.under_plainId plain_eq_loop _]
    exact ne_loop_same l b items items2 n n2 dd dd2 sl sl2 hsz _ 0 rfl A R _ ⟨hl, hb, he, h⟩)⟩
end
end Rk
/-! == and != of values that are equal, by depth; from data. -/
namespace Rk
open PySem PySem.Spec PyProof.Rows L2
/-- equal, of nesting below n: flat, the same object, lists of equals, tuples of equals -/
def EqT (K : PySem.W.Frag) (H : Hp) : Nat → V → V → Prop
  | 0 => fun _ _ => False
  | n + 1 => fun x y => (x = y ∧ flatB x = true) ∨ (∃ a, x = .ref a ∧ y = .ref a) ∨ (∃ a b xs ys, x = .ref a ∧ y = .ref b ∧ SqL K H a xs ∧ SqL K H b ys ∧ Paired (EqT K H n) xs ys) ∨ ∃ a b xs ys, x = .ref a ∧ y = .ref b ∧ SqT K H a xs ∧ SqT K H b ys ∧ Paired (EqT K H n) xs ys
section
variable {X : Cx} {pins : List (Addr × Obj)} {σ : L2.St} {H : Hp} {s : Shared}
theorem tupEq_run (I : Inv X pins σ H s) {A : Around} {F : V → V → Prop} (hu : A.units < cLine) (ih : ∀ x y v u, F x y → RelV x v → RelV y u → SeqAt.EqP X.prog X.w A.in1 s v u true) {a b : Addr} {xs ys : List V} (ha : SqT X.K H a xs) (hb : SqT X.K H b ys) (hp : Paired F xs ys)
    (E Q : Value → Shared → Prop) (q : Q (.bool true) s) : wpAny (model X.prog X.w) A (richCompare .Eq (.ref a) (.ref b)) Q E s := by
  obtain ⟨us, ra, ta, _⟩ := I.tuple ha
  obtain ⟨ws, rb, tb, _⟩ := I.tuple hb
  obtain ⟨⟨c1, d1, t1, s1⟩, g1, e1, n1, f1⟩ := id ta
  obtain ⟨⟨c2, d2, t2, s2⟩, g2, e2, n2, f2⟩ := id tb
  simp only at e1 f1 e2 f2
  subst e1 f1 e2 f2
  have len : us.toArray.size = ws.toArray.size := by rw [List.size_toArray, List.size_toArray, ← ra.length, ← rb.length]; exact Paired.length hp
  refine wpAny_richCompare_same_room (T := "tuple") (op := .Eq) ⟨_, g1, rfl⟩ ⟨_, g2, rfl⟩ PySem.F.slot_tuple_eq (call_meetsIn PySem.F.slot_tuple_eq ⟨_, g1, rfl⟩ PySem.F.entry_tuple_eq (PySem.F.args_tuple_eq_2 _ _) (eq_same_tuples a b us.toArray ws.toArray n1 n2 d1 d2 s1 s2 len)
    ⟨g1, g2, fun j u' v' hu' hv' => ?_, show Value.bool true ≠ Value.notImplemented ∧ Q (.bool true) s from ⟨(fun z => nomatch z), q⟩⟩) hu
  have hj : j < us.length := by simpa using (Array.getElem?_eq_some_iff.mp hu').1
  have hk : j < ws.length := by simpa using (Array.getElem?_eq_some_iff.mp hv').1
  have q1 := items_run (P := X.prog) (w := X.w) (A := A.in1) (s := s) ih hp ra rb j hj hk
  have a1 : us[j] = u' := by have := (Array.getElem?_eq_some_iff.mp hu').2; simpa using this
  have a2 : ws[j] = v' := by have := (Array.getElem?_eq_some_iff.mp hv').2; simpa using this
  rw [a1, a2] at q1
  exact q1
theorem eqT_run (I : Inv X pins σ H s) : ∀ (n : Nat) (A : Around), A.units + n < cLine → ∀ (x y : V) (v u : Value), EqT X.K H n x y → RelV x v → RelV y u → SeqAt.EqP X.prog X.w A s v u true
  | 0, _, _, _, _, _, _, h, _, _ => (show False from h).elim
  | n + 1, A, hu, x, y, v, u, h, rx, ry => by
    have ih := eqT_run I n A.in1 (by show A.units + 1 + n < cLine; omega)
    rcases h with ⟨rfl, f⟩ | ⟨a, rfl, rfl⟩ | ⟨a, b, xs, ys, rfl, rfl, ha, hb, hp⟩ | ⟨a, b, xs, ys, rfl, rfl, ha, hb, hp⟩
    · exact (eqAt_same rx ry f).eqP
    · cases (show v = Value.ref a from rx)
      cases (show u = Value.ref a from ry)
      exact (SeqAt.EqAt.same _).eqP
    · have step := fun E Q q => eqR_run I (A := A) (by omega) ih (.inl ⟨a, b, xs, ys, rfl, rfl, ha, hb, hp⟩) rx ry E Q q
      cases (show v = Value.ref a from rx)
      cases (show u = Value.ref b from ry)
      by_cases e : a = b
      · subst e; exact (SeqAt.EqAt.same _).eqP
      · exact SeqAt.eqP_refs e step
    · cases (show v = Value.ref a from rx)
      cases (show u = Value.ref b from ry)
      by_cases e : a = b
      · subst e; exact (SeqAt.EqAt.same _).eqP
      · exact SeqAt.eqP_refs e fun E Q q => tupEq_run I (by omega) ih ha hb hp E Q q
/-- two lists or two tuples, equal -/
def Eq2 (K : PySem.W.Frag) (H : Hp) (x y : V) : Prop := ∃ a b xs ys n, x = .ref a ∧ y = .ref b ∧ n ≤ 60 ∧ ((SqL K H a xs ∧ SqL K H b ys) ∨ (SqT K H a xs ∧ SqT K H b ys)) ∧ Paired (EqT K H n) xs ys
def rEqT (K : PySem.W.Frag) : R2 := fun x y H Q => Eq2 K H x y ∧ Q (.bl true) H
def rNeT (K : PySem.W.Frag) : R2 := fun x y H Q => Eq2 K H x y ∧ Q (.bl false) H
end
theorem op_eqT {X : Cx} (hu : X.A.units + 64 < cLine) : OpR X (compareOp .Eq) (rEqT X.K) := by
  rintro pins s σ H x y v u Q I rx ry ⟨⟨a, b, xs, ys, n, rfl, rfl, hn, h, hp⟩, q⟩
  have ih := eqT_run I n X.A.in1 (by show X.A.units + 1 + n < cLine; omega)
  rcases h with ⟨ha, hb⟩ | ⟨ha, hb⟩
  · exact eqR_run I (A := X.A) (by omega) ih (.inl ⟨a, b, xs, ys, rfl, rfl, ha, hb, hp⟩) rx ry _ _ ⟨.bl true, H, I, rfl, q⟩
  · obtain rfl : v = Value.ref a := rx
    obtain rfl : u = Value.ref b := ry
    exact tupEq_run I (by omega) ih ha hb hp _ _ ⟨.bl true, H, I, rfl, q⟩
theorem op_neT {X : Cx} (hu : X.A.units + 64 < cLine) : OpR X (compareOp .NotEq) (rNeT X.K) := by
  rintro pins s σ H x y v u Q I rx ry ⟨⟨a, b, xs, ys, n, rfl, rfl, hn, h, hp⟩, q⟩
  have ih := eqT_run I n X.A.in1 (by show X.A.units + 1 + n < cLine; omega)
  obtain rfl : v = Value.ref a := rx
  obtain rfl : u = Value.ref b := ry
  rcases h with ⟨ha, hb⟩ | ⟨ha, hb⟩
  · obtain ⟨us, ra, la, _⟩ := I.list ha
    obtain ⟨ws, rb, lb, _⟩ := I.list hb
    obtain ⟨⟨c1, d1, t1, s1⟩, g1, e1, n1, f1⟩ := id la.isList
    obtain ⟨⟨c2, d2, t2, s2⟩, g2, e2, n2, f2⟩ := id lb.isList
    simp only at e1 f1 e2 f2
    subst e1 f1 e2 f2
    have len : us.toArray.size = ws.toArray.size := by rw [List.size_toArray, List.size_toArray, ← ra.length, ← rb.length]; exact Paired.length hp
    refine wpAny_richCompare_same_room (T := "list") (op := .NotEq) ⟨_, g1, rfl⟩ ⟨_, g2, rfl⟩ PySem.F.slot_list_ne (call_meetsIn PySem.F.slot_list_ne ⟨_, g1, rfl⟩ PySem.F.entry_list_ne (PySem.F.args_list_ne_2 _ _) (ne_same_lists a b us.toArray ws.toArray n1 n2 d1 d2 s1 s2 len)
      ⟨g1, g2, fun j h1 h2 => ?_, show Value.bool false ≠ Value.notImplemented ∧ EP X pins σ Q (.bool false) s from ⟨(fun z => nomatch z), ⟨.bl false, H, I, rfl, q⟩⟩⟩) (by omega)
    have k := items_run ih hp ra rb j (by simpa using h1) (by simpa using h2)
    simpa using k
  · obtain ⟨us, ra, ta, _⟩ := I.tuple ha
    obtain ⟨ws, rb, tb, _⟩ := I.tuple hb
    obtain ⟨⟨c1, d1, t1, s1⟩, g1, e1, n1, f1⟩ := id ta
    obtain ⟨⟨c2, d2, t2, s2⟩, g2, e2, n2, f2⟩ := id tb
    simp only at e1 f1 e2 f2
    subst e1 f1 e2 f2
    have len : us.toArray.size = ws.toArray.size := by rw [List.size_toArray, List.size_toArray, ← ra.length, ← rb.length]; exact Paired.length hp
    refine wpAny_richCompare_same_room (T := "tuple") (op := .NotEq) ⟨_, g1, rfl⟩ ⟨_, g2, rfl⟩ PySem.F.slot_tuple_ne (call_meetsIn PySem.F.slot_tuple_ne ⟨_, g1, rfl⟩ PySem.F.entry_tuple_ne (PySem.F.args_tuple_ne_2 _ _) (ne_same_tuples a b us.toArray ws.toArray n1 n2 d1 d2 s1 s2 len)
      ⟨g1, g2, fun j u' v' hu' hv' => ?_, show Value.bool false ≠ Value.notImplemented ∧ EP X pins σ Q (.bool false) s from ⟨(fun z => nomatch z), ⟨.bl false, H, I, rfl, q⟩⟩⟩) (by omega)
    have hj : j < us.length := by simpa using (Array.getElem?_eq_some_iff.mp hu').1
    have hk : j < ws.length := by simpa using (Array.getElem?_eq_some_iff.mp hv').1
    have q1 := items_run (P := X.prog) (w := X.w) (A := X.A.in1) (s := s) ih hp ra rb j hj hk
    have a1 : us[j] = u' := by have := (Array.getElem?_eq_some_iff.mp hu').2; simpa using this
    have a2 : ws[j] = v' := by have := (Array.getElem?_eq_some_iff.mp hv').2; simpa using this
    rw [a1, a2] at q1
    exact q1
end Rk
/-! Equal data are equal values. -/
namespace Rk
open PySem PySem.Spec PyProof.Rows L2
mutual
def dpt : PyData → Nat
  | .list ds => dptL ds + 1
  | .tuple ds => dptL ds + 1
  | .none => 1
  | .bool _ => 1
  | .int _ => 1
  | .str _ => 1
  | .dict _ => 1
def dptL : List PyData → Nat
  | [] => 0
  | d :: r => max (dpt d) (dptL r)
end
mutual
theorem Di.eqT {K : PySem.W.Frag} {H : Hp} : ∀ {d : PyData} {n : Nat} {v u : V}, dpt d ≤ n → Di H v d → Di H u d → EqT K H n v u
  | .none, 0, _, _, h, _, _ => absurd h (by simp [dpt])
  | .bool _, 0, _, _, h, _, _ => absurd h (by simp [dpt])
  | .int _, 0, _, _, h, _, _ => absurd h (by simp [dpt])
  | .str _, 0, _, _, h, _, _ => absurd h (by simp [dpt])
  | .list _, 0, _, _, h, _, _ => absurd h (by simp [dpt])
  | .tuple _, 0, _, _, h, _, _ => absurd h (by simp [dpt])
  | .dict _, _, _, _, _, a, _ => by cases a
  | .none, n + 1, _, _, _, a, b => by cases a; cases b; exact .inl ⟨rfl, rfl⟩
  | .bool _, n + 1, _, _, _, a, b => by cases a; cases b; exact .inl ⟨rfl, rfl⟩
  | .int _, n + 1, _, _, _, a, b => by cases a; cases b; exact .inl ⟨rfl, rfl⟩
  | .str _, n + 1, _, _, _, a, b => by cases a; cases b; exact .inl ⟨rfl, rfl⟩
  | .list ds, n + 1, _, _, h, a, b => by
    cases a with
    | lst e1 l1 =>
      cases b with
      | lst e2 l2 => exact .inr (.inr (.inl ⟨_, _, _, _, rfl, rfl, .inl (.inr ⟨_, e1⟩), .inl (.inr ⟨_, e2⟩), Dl.eqT (by unfold dpt at h; omega) l1 l2⟩))
  | .tuple ds, n + 1, _, _, h, a, b => by
    cases a with
    | tup e1 l1 =>
      cases b with
      | tup e2 l2 => exact .inr (.inr (.inr ⟨_, _, _, _, rfl, rfl, SqT.of e1, SqT.of e2, Dl.eqT (by unfold dpt at h; omega) l1 l2⟩))
theorem Dl.eqT {K : PySem.W.Frag} {H : Hp} : ∀ {ds : List PyData} {n : Nat} {vs us : List V}, dptL ds ≤ n → Dl H vs ds → Dl H us ds → Paired (EqT K H n) vs us
  | [], _, _, _, _, a, b => by rw [a.inv_nil, b.inv_nil]; exact .nil
  | d :: r, n, _, _, h, a, b => by
    obtain ⟨x, xs, rfl, a1, a2⟩ := a.inv_cons
    obtain ⟨y, ys, rfl, b1, b2⟩ := b.inv_cons
    unfold dptL at h
    exact .cons (Di.eqT (by omega) a1 b1) (Dl.eqT (by omega) a2 b2)
end
theorem dptL_ints : ∀ p : List Int, dptL (p.map PyData.int) ≤ 1
  | [] => Nat.zero_le _
  | i :: p => by
    rw [List.map_cons]
    unfold dptL
    have := dptL_ints p
    have : dpt (.int i) = 1 := rfl
    omega
theorem dpt_in (p : List Int) : dpt (inD p) ≤ 2 := by
  have := dptL_ints p
  show dptL (p.map PyData.int) + 1 ≤ 2
  omega
theorem dpt_oS (o : Option Str) : dpt (oS o) = 1 := by cases o <;> rfl
theorem dptL_map {α : Type} {f : α → PyData} {n : Nat} (h : ∀ a, dpt (f a) ≤ n) : ∀ l : List α, dptL (l.map f) ≤ n
  | [] => Nat.zero_le _
  | a :: l => by
    rw [List.map_cons]
    unfold dptL
    have := h a
    have := dptL_map h l
    omega
theorem dpt_ev (e : Evt) : dpt (evD e) ≤ 10 := by
  cases e with
  | input p m as =>
    have := dpt_in p
    have := dpt_in as
    simp only [evD, dpt, dptL] at *
    omega
  | deliver i => simp [evD, dpt, dptL]
  | answer i v => simp [evD, dpt, dptL]
theorem dpt_td (t : Td) : dpt (tdD t) ≤ 10 := by
  cases t with
  | input p m => have := dpt_in p; simp only [tdD, dpt, dptL] at *; omega
  | dropped p m => have := dpt_in p; simp only [tdD, dpt, dptL] at *; omega
  | handled p m k w => have := dpt_in p; have := dpt_oS w; simp only [tdD, dpt, dptL] at *; omega
  | answered p n => have := dpt_in p; simp only [tdD, keyD, dpt, dptL] at *; omega
theorem dpt_wt (x : Wt) : dpt (wtD x) ≤ 10 := by
  have := dpt_in x.path
  have := dpt_in x.args
  unfold wtD
  cases x.org with
  | sent p n => have := dpt_in p; simp only [ogD, dpt, dptL] at *; omega
  | input m => simp only [ogD, dpt, dptL] at *; omega
  | answer p n => have := dpt_in p; simp only [ogD, keyD, dpt, dptL] at *; omega
theorem dpt_pn (x : Pn) : dpt (pnD x) ≤ 10 := by
  have := dpt_in x.path
  have := dpt_in x.args
  have := dpt_oS x.back
  simp only [pnD, keyD, dpt, dptL] at *
  omega
theorem dpt_gn (x : Gn) : dpt (gnD x) ≤ 10 := by
  have := dpt_in x.path
  have := dpt_in x.args
  simp only [gnD, keyD, dpt, dptL] at *
  omega
section
variable {K : PySem.W.Frag} {H : Hp}
theorem eq2_lst {v u : V} {ds : List PyData} (h : dptL ds ≤ 60) (a : Di H v (.list ds)) (b : Di H u (.list ds)) : Eq2 K H v u := by
  obtain ⟨x, o1, xs, rfl, e1, l1⟩ := a.inv_lst
  obtain ⟨y, o2, ys, rfl, e2, l2⟩ := b.inv_lst
  exact ⟨x, y, xs, ys, 60, rfl, rfl, Nat.le_refl _, .inl ⟨.inl (.inr ⟨_, e1⟩), .inl (.inr ⟨_, e2⟩)⟩, Dl.eqT h l1 l2⟩
theorem eq2_tup {v u : V} {ds : List PyData} (h : dptL ds ≤ 60) (a : Di H v (.tuple ds)) (b : Di H u (.tuple ds)) : Eq2 K H v u := by
  obtain ⟨x, xs, rfl, e1, l1⟩ := a.inv_tup
  obtain ⟨y, ys, rfl, e2, l2⟩ := b.inv_tup
  exact ⟨x, y, xs, ys, 60, rfl, rfl, Nat.le_refl _, .inr ⟨SqT.of e1, SqT.of e2⟩, Dl.eqT h l1 l2⟩
theorem eq2_seq {a b : Addr} {xs ys : List V} {ds : List PyData} (h : dptL ds ≤ 60) (e1 : SqL K H a xs) (e2 : SqL K H b ys) (l1 : Dl H xs ds) (l2 : Dl H ys ds) : Eq2 K H (.ref a) (.ref b) := ⟨a, b, xs, ys, 60, rfl, rfl, Nat.le_refl _, .inl ⟨e1, e2⟩, Dl.eqT h l1 l2⟩
end
end Rk
/-! retroact.machine: same_state. -/
namespace Rk
open PySem PySem.Spec PyProof.Rows L2
theorem keysE {R : Pth → V → Bg → Prop} {H : Hp} : ∀ {kvs : List (List Key × V)} {bgs : List (Pth × Bg)} {bs : List Addr}, Ks R kvs bgs → IsKeys H kvs bs → ∃ es : List (Addr × List Int), es.map (·.1) = bs ∧ es.map (·.2) = bgs.map (·.1) ∧ ∀ e ∈ es, H e.1 = some (.tup (e.2.map V.int))
  | [], [], _, _, k => by cases k; exact ⟨[], rfl, rfl, fun _ m => (nomatch m)⟩
  | kv :: r, b :: t, _, ⟨a, _, c⟩, k => by
    cases k with
    | cons h k =>
      obtain ⟨es, e1, e2, e3⟩ := keysE c k
      refine ⟨(_, b.1) :: es, by rw [List.map_cons, e1], by rw [List.map_cons, List.map_cons, e2], fun e m => ?_⟩
      rcases List.mem_cons.mp m with rfl | m
      · rw [a, pK_kV] at h; exact h
      · exact e3 e m
  | [], _ :: _, _, q, _ => q.elim
  | _ :: _, [], _, q, _ => q.elim
theorem flatsT {K : PySem.W.Frag} {H : Hp} {n : Nat} : ∀ l : List Int, Paired (EqT K H (n + 1)) (l.map V.int) (l.map V.int)
  | [] => .nil
  | _ :: l => .cons (.inl ⟨rfl, rfl⟩) (flatsT l)
theorem pairF {K : PySem.W.Frag} {H : Hp} : ∀ {f1 f2 : List (Addr × List Int)}, f1.map (·.2) = f2.map (·.2) → (∀ e ∈ f1, H e.1 = some (.tup (e.2.map V.int))) → (∀ e ∈ f2, H e.1 = some (.tup (e.2.map V.int))) → Paired (EqT K H 60) (f1.map fun e => V.ref e.1) (f2.map fun e => V.ref e.1)
  | [], [], _, _, _ => .nil
  | [], _ :: _, h, _, _ => by cases h
  | _ :: _, [], h, _, _ => by cases h
  | x :: f1, y :: f2, h, h1, h2 => by
    rw [List.map_cons, List.map_cons] at h
    injection h with ha hb
    refine .cons (.inr (.inr (.inr ⟨x.1, y.1, _, _, rfl, rfl, SqT.of (h1 x List.mem_cons_self), SqT.of (h2 y List.mem_cons_self), ?_⟩))) (pairF hb (fun e m => h1 e (List.mem_cons_of_mem _ m)) fun e m => h2 e (List.mem_cons_of_mem _ m))
    rw [ha]
    exact flatsT _
theorem getB_at : ∀ {l : List (Pth × Bg)} {i : Nat} {p : Pth} {b : Bg}, (l.map (·.1)).Nodup → l[i]? = some (p, b) → getB l p = some b
  | q :: l, 0, p, b, _, e => by
    simp only [List.getElem?_cons_zero] at e
    cases e
    unfold getB
    rw [List.find?_cons]
    simp
  | q :: l, i + 1, p, b, nd, e => by
    simp only [List.getElem?_cons_succ] at e
    rw [List.map_cons, List.nodup_cons] at nd
    have ne : ¬ q.1 = p := fun z => nd.1 (by rw [z]; exact List.mem_map.mpr ⟨(p, b), List.mem_of_getElem? e, rfl⟩)
    have := getB_at nd.2 e
    unfold getB at this ⊢
    rw [List.find?_cons]
    simp only [ne, decide_false]
    exact this
  | [], _, _, _, _, e => by simp at e
theorem dN_val {env : Env} (nd : (env.map (·.1)).Nodup) : ∀ p ∈ dN env, valV (dN env) p.1 = some p.2 ∧ flatB p.2 = true := by
  intro p m
  obtain ⟨⟨x, i⟩, hx, rfl⟩ := List.mem_map.mp m
  refine ⟨?_, rfl⟩
  show valV (dN env) (.inr x) = some (.int i)
  rw [valV_dN]
  have : getN env x = some i := by
    clear m
    induction env with
    | nil => cases hx
    | cons q r ih =>
      rw [List.map_cons, List.nodup_cons] at nd
      unfold getN
      rw [List.find?_cons]
      rcases List.mem_cons.mp hx with e | e
      · rw [← e]; simp
      · have ne : ¬ q.1 = x := fun z => nd.1 (by rw [z]; exact List.mem_map.mpr ⟨(x, i), e, rfl⟩)
        simp only [ne, decide_false]
        exact ih nd.2 e
  rw [this]
  rfl
section
variable {K : PySem.W.Frag} {mg : Str → Option Value} {P : Program} {w : World} {base : Heap}
def spSs (K : PySem.W.Frag) : Sp := fun vs H Q _ => ∃ v u s prg M, vs = [v, u] ∧ StaAt K H v s ∧ StaAt K H u s ∧ StaOk prg M s ∧ M ≤ 40000 ∧ ∀ Ha, Kp [] H Ha → Q (.bl true) Ha
theorem ok_same_state (T : Tx K mg) : FnOk P w K mg base (L2N.CX P w) 2 (He.ga K "same_state") T.fd_same_state P_same_state (spSs K) := by
  refine T.D_same_state.ok sc_same_state (fun vs H Q E h => by obtain ⟨v, u, s, prg, M, rfl, _⟩ := h; rfl) fun cdv A outer sh H vs Q E hr h => ⟨_, (pss_cons (ps_if (pt_cmpR (op_neT hr.units) (pe_callB (cr_sortedT hr.units) (by rfl) T.f_sorted (by decide +kernel) (pa_cons (pe_callTy (call_list_dT rfl) (by rfl) T.f_list (by decide +kernel) (pa_cons (pe_att T.c_State T.n_State_beings (pv 0)) pa_nil)) pa_nil)) (pe_callB (cr_sortedT hr.units) (by rfl) T.f_sorted (by decide +kernel) (pa_cons (pe_callTy (call_list_dT rfl) (by rfl) T.f_list (by decide +kernel) (pa_cons (pe_att T.c_State T.n_State_beings (pv 1)) pa_nil)) pa_nil)) (nomark _))
    (pss_one (ps_ret pe_bl))
    pss_nil)
    (pss_cons (ps_for PassesOwn.leaving rfl (pi_pairs (pe_att T.c_State T.n_State_beings (pv 0))).calm (pg_tup rfl (pgs_cons (pg_name (i := 2) sc_same_state.nd rfl (.inl rfl)) (pgs_cons (pg_name (i := 3) sc_same_state.nd rfl (.inl rfl)) pgs_nil)))
    (pss_one (ps_if (pt_cmpR (op_neI hr.units) (pe_callS (ok_being_parts T) (hr.mono (by decide)) rfl T.g_being_parts T.p_being_parts T.b_being_parts (fun σ => L2N.passAt (L2N.takes_of rfl rfl rfl rfl) σ) (pa_cons (pv 3) pa_nil)) (pe_callS (ok_being_parts T) (hr.mono (by decide)) rfl T.g_being_parts T.p_being_parts T.b_being_parts (fun σ => L2N.passAt (L2N.takes_of rfl rfl rfl rfl) σ) (pa_cons (pe_dget (hu_of hr) (pe_att T.c_State T.n_State_beings (pv 1)) (pv 2) (fun _ _ => rfl)) pa_nil)) (nomark _))
    (pss_one (ps_ret pe_bl))
    pss_nil)))
    (pss_one (ps_ret (pe_and (pe_cmpR (op_eqT hr.units) (pe_att T.c_State T.n_State_waiting (pv 0)) (pe_att T.c_State T.n_State_waiting (pv 1)) (nomark _)) (pe_and (pe_cmpR (op_eqT hr.units) (pe_att T.c_State T.n_State_pending (pv 0)) (pe_att T.c_State T.n_State_pending (pv 1)) (nomark _)) (pe_one (pe_cmpR (op_eqT hr.units) (pe_att T.c_State T.n_State_gone (pv 0)) (pe_att T.c_State T.n_State_gone (pv 1)) (nomark _))))))))), ?_⟩
  obtain ⟨v, u, s, prg, M, rfl, hv, hu, ok, lM, q⟩ := h
  obtain ⟨p1, o1, dx1, B1, ob1, k1, w1, n1, g1, rfl, e1, eB1, ks1, a1, a2, a3⟩ := hv
  obtain ⟨p2, o2, dx2, B2, ob2, k2, w2, n2, g2, rfl, e2, eB2, ks2, b1, b2, b3⟩ := hu
  have l1 := ks1.len
  have l2 := ks2.len
  -- the rows of paths
  refine ⟨_, rfl, p1, o1, dx1, _, _, rfl, e1, rfl, B1, k1, rfl, .inr ⟨_, eB1⟩, fun q1 bs1 nq1 ik1 => ?_⟩
  obtain ⟨es1, z1, z2, z3⟩ := keysE ks1 ik1
  have kA : Kp [] H (upd H q1 (.lst (bs1.map V.ref))) := Kp.refl.new nq1
  have le1 : es1.length = s.bgs.length := by rw [← List.length_map (f := (·.2)), z2, List.length_map]
  refine ⟨q1, es1, rfl, SqL.of (by rw [upd_same, ← z1, List.map_map]; rfl), fun e m => kA.tup _ _ (z3 e m), fun f1 p1' pm1 so1 np1 => ?_⟩
  have kB : Kp [] H (upd (upd H q1 (.lst (bs1.map V.ref))) p1' (.lst (f1.map fun e => V.ref e.1))) := kA.new np1
  have r1 : (upd (upd H q1 (.lst (bs1.map V.ref))) p1' (.lst (f1.map fun e => V.ref e.1))) p1' = some (.lst (f1.map fun e => V.ref e.1)) := upd_same
  revert kB r1
  generalize (upd (upd H q1 (.lst (bs1.map V.ref))) p1' (.lst (f1.map fun e => V.ref e.1))) = HB
  intro kB r1
  refine ⟨_, rfl, p2, o2, dx2, _, _, rfl, kB.frz _ _ _ e2, rfl, B2, k2, rfl, .inr ⟨_, kB.frz _ _ _ eB2⟩, fun q2 bs2 nq2 ik2 => ?_⟩
  obtain ⟨es2, y1, y2, y3⟩ := keysE ks2 ik2
  have kC : Kp [] HB (upd HB q2 (.lst (bs2.map V.ref))) := Kp.refl.new nq2
  refine ⟨q2, es2, rfl, SqL.of (by rw [upd_same, ← y1, List.map_map]; rfl), fun e m => kC.tup _ _ (y3 e m), fun f2 p2' pm2 so2 np2 => ?_⟩
  have kD : Kp [] HB (upd (upd HB q2 (.lst (bs2.map V.ref))) p2' (.lst (f2.map fun e => V.ref e.1))) := kC.new np2
  have r2 : (upd (upd HB q2 (.lst (bs2.map V.ref))) p2' (.lst (f2.map fun e => V.ref e.1))) p2' = some (.lst (f2.map fun e => V.ref e.1)) := upd_same
  revert kD r2
  generalize (upd (upd HB q2 (.lst (bs2.map V.ref))) p2' (.lst (f2.map fun e => V.ref e.1))) = HD
  intro kD r2
  have same : f1.map (·.2) = f2.map (·.2) := sorted_same (((pm1.map _).trans (List.Perm.of_eq z2)).trans ((List.Perm.of_eq y2.symm).trans (pm2.map _).symm)) so1 so2
  refine ⟨⟨p1', p2', _, _, 60, rfl, rfl, Nat.le_refl _, .inl ⟨SqL.of (kD.same _ _ r1), SqL.of r2⟩, pairF same (fun e m => kD.tup _ _ (kB.tup _ _ (z3 e (pm1.mem_iff.mp m)))) fun e m => kD.tup _ _ (y3 e (pm2.mem_iff.mp m))⟩, _, rfl, iF rfl ?_⟩
  have kE := kB.trans kD
  refine ⟨_, rfl, p1, o1, dx1, _, _, rfl, kE.frz _ _ _ e1, rfl, B1, ob1, rfl, .inr ⟨k1, kE.frz _ _ _ eB1, for_pairs (fun i σ Hc => ∃ t3 t4, σ = [some (.ref p1), some (.ref p2), t3, t4] ∧ Kp [] H Hc) ⟨none, none, rfl, kE⟩ (fun i σ Hc ⟨_, _, _, k⟩ => k.frz _ _ _ eB1) (fun i T' kx vx σ Hc il ⟨t3, t4, eσ, kc⟩ ⟨key, kq, hk, ek, eq⟩ nT => ?_) fun σ Hc ⟨t3, t4, eσ, kc⟩ => ?_⟩⟩
  · subst eσ ek
    obtain ⟨⟨pth, b⟩, hb, hkey, bat1⟩ := ks1.at hk
    have hkey : key = pK pth := hkey
    have gb := getB_at ok.nd hb
    obtain ⟨u2, hu2, bat2⟩ := ks2.some gb
    have bok := (ok.bgs _ _ (getB_mem gb)).1
    have kT : Kp [] H (upd Hc T' (.tup [.ref kq, vx])) := kc.new nT
    refine ⟨T', _, rfl, SqT.of upd_same, rfl, _, _, rfl, _, _, rfl, rfl, ?_⟩
    have eq' : (upd Hc T' (.tup [.ref kq, vx])) kq = some (.tup ((pK pth).map kV)) := by rw [upd_ne (ne_of_none eq nT), ← hkey]; exact eq
    obtain ⟨bp1, bo1, bdx1, D1, od1, rfl, f1', g1'⟩ := BgAt.mono (show BgAt K H vx b from bat1) kT
    refine ⟨_, rfl, bp1, bo1, bdx1, b, D1, rfl, f1', fun t1 nt1 => ?_⟩
    have kU := kT.new (o := .tup (bgV b D1)) nt1
    have kU1 : Kp [] (upd Hc T' (.tup [.ref kq, .ref bp1])) (upd (upd Hc T' (.tup [.ref kq, .ref bp1])) t1 (.tup (bgV b D1))) := Kp.refl.new nt1
    obtain ⟨bp2, bo2, bdx2, D2, od2, rfl, f2', g2'⟩ := BgAt.mono (show BgAt K H u2 b from bat2) kU
    refine ⟨_, rfl, p2, o2, dx2, _, _, rfl, kU.frz _ _ _ e2, rfl, _, rfl, B2, .ref bp2, rfl, .inr ⟨k2, pK pth, kq, .inr ⟨_, kU.frz _ _ _ eB2⟩, rfl, kU1.tup _ _ eq', hu2.symm⟩, bp2, bo2, bdx2, b, D2, rfl, f2', fun t2 nt2 => ?_⟩
    have kV2 : Kp [] (upd (upd Hc T' (.tup [.ref kq, .ref bp1])) t1 (.tup (bgV b D1))) (upd (upd (upd Hc T' (.tup [.ref kq, .ref bp1])) t1 (.tup (bgV b D1))) t2 (.tup (bgV b D2))) := Kp.refl.new nt2
    refine ⟨t1, t2, _, _, rfl, rfl, kV2.tup _ _ upd_same, upd_same, ?_, _, rfl, iF rfl ⟨_, _, rfl, kU.trans kV2⟩⟩
    refine .cons (.inl ⟨rfl, rfl⟩) (.cons (.inr (.inr ⟨D1, D2, dN b.sts, rfl, rfl, .inr ⟨_, (kU1.trans kV2).frz _ _ _ g1'⟩, .inr ⟨_, kV2.frz _ _ _ g2'⟩, dN_val bok.so.nd⟩)) (.cons (.inl ⟨rfl, rfl⟩) (.cons (.inl ⟨rfl, rfl⟩) (.cons (.inl ⟨rfl, rfl⟩) (.cons (.inl ⟨rfl, rfl⟩) .nil)))))
  · subst eσ
    have h1 := fun d => dptL_map (n := 10) dpt_wt d
    refine ⟨_, rfl, p1, o1, dx1, _, _, rfl, kc.frz _ _ _ e1, rfl, _, rfl, p2, o2, dx2, _, _, rfl, kc.frz _ _ _ e2, rfl, eq2_lst (by have := dptL_map dpt_wt s.wt; omega) (a1.mono kc) (b1.mono kc), true, rfl, iT rfl ?_⟩
    refine ⟨_, rfl, p1, o1, dx1, _, _, rfl, kc.frz _ _ _ e1, rfl, _, rfl, p2, o2, dx2, _, _, rfl, kc.frz _ _ _ e2, rfl, eq2_lst (by have := dptL_map dpt_pn s.pn; omega) (a2.mono kc) (b2.mono kc), true, rfl, iT rfl ?_⟩
    exact ⟨_, rfl, p1, o1, dx1, _, _, rfl, kc.frz _ _ _ e1, rfl, _, rfl, p2, o2, dx2, _, _, rfl, kc.frz _ _ _ e2, rfl, eq2_lst (by have := dptL_map dpt_gn s.gn; omega) (a3.mono kc) (b3.mono kc), q Hc kc⟩
end
end Rk
/-! retroact.program: Actor and Program made. -/
namespace Rk
open PySem PySem.Spec PyProof.Rows L2
section
variable {K : PySem.W.Frag} {mg : Str → Option Value} {P : Program} {w : World} {base : Heap}
def spAi (K : PySem.W.Frag) : Sp := fun vs H Q _ => ∃ o dx, ∃ a : Act, ∃ x1 x2 x3 l1 l2 l3, vs = [.ref o, .str a.nam, .ref x1, .ref x2, .ref x3] ∧ H o = some (.ins (He.ga K "Actor") dx []) ∧ (∀ Ha, Kp [o] H Ha → SqL K Ha x1 l1 ∧ SqL K Ha x2 l2 ∧ SqL K Ha x3 l3) ∧
  Dl H l1 (a.pars.map .str) ∧ Dl H l2 (a.sts.map sxD) ∧ Dl H l3 (a.hds.map hdD) ∧
  ∀ Ha vp vs' vh, Kp [o] H Ha → Ha o = some (.ins (He.ga K "Actor") dx [("name", .str a.nam), ("parameters", vp), ("states", vs'), ("handlers", vh)]) → Di Ha vp (.list (a.pars.map .str)) → Di Ha vs' (.list (a.sts.map sxD)) → Di Ha vh (.list (a.hds.map hdD)) → Q .non Ha
theorem ok_Actor_init (T : Tx K mg) : FnOk P w K mg base (L2N.CX P w) 1 (He.ma K (He.ga K "Actor") "__init__") T.fd_Actor_init P_Actor_init (spAi K) := by
  refine T.D_Actor_init.ok sc_Actor_init (fun vs H Q E h => by obtain ⟨o, dx, a, x1, x2, x3, l1, l2, l3, rfl, _⟩ := h; rfl) fun cdv A outer s H vs Q E hr h => ⟨_, (pss_cons (ps_fe T.c_Actor T.n_Actor_name (pv 0) (pv 1))
    (pss_cons (ps_fe T.c_Actor T.n_Actor_parameters (pv 0) (pe_fz (pe_callTy call_list_of (by rfl) T.f_list (by decide +kernel) (pa_cons (pv 2) pa_nil))))
    (pss_cons (ps_fe T.c_Actor T.n_Actor_states (pv 0) (pe_fz (pe_callTy call_list_of (by rfl) T.f_list (by decide +kernel) (pa_cons (pv 3) pa_nil))))
    (pss_one (ps_fe T.c_Actor T.n_Actor_handlers (pv 0) (pe_fz (pe_callTy call_list_of (by rfl) T.f_list (by decide +kernel) (pa_cons (pv 4) pa_nil)))))))), ?_⟩
  obtain ⟨o, dx, a, x1, x2, x3, l1, l2, l3, rfl, eo, hl, d1, d2, d3, q⟩ := h
  refine ⟨_, rfl, _, rfl, o, dx, [], rfl, eo, (by decide : (0 : Nat) < 1000), ?_⟩
  have k1 : Kp [o] H (upd H o (.ins (He.ga K "Actor") dx [("name", .str a.nam)])) := Kp.refl.wr (by simp) eo
  refine ⟨_, rfl, x1, l1, rfl, .inl (hl _ k1).1, fun p1 n1 => ⟨p1, _, upd_same, True.intro, fun o1 => ?_⟩⟩
  have h1 : p1 ≠ o := fun z => by rw [z, upd_same] at n1; cases n1
  have n1H : H p1 = none := k1.dom _ n1
  refine ⟨_, rfl, o, dx, [("name", .str a.nam)], rfl, (upd_ne (Ne.symm h1)).trans ((upd_ne (Ne.symm h1)).trans upd_same), (by decide : (1 : Nat) < 1000), ?_⟩
  have k2 := ((k1.new (o := .lst l1) n1).own (o := .frz o1 (.lst l1)) n1H).wr (p := o) (o := .ins (He.ga K "Actor") dx [("name", .str a.nam), ("parameters", .ref p1)]) (by simp) ((upd_ne (Ne.symm h1)).trans ((upd_ne (Ne.symm h1)).trans upd_same))
  have f1 : ∀ (Hx : Hp) (u : HO), (upd (upd Hx p1 (.frz o1 (.lst l1))) o u) p1 = some (.frz o1 (.lst l1)) := fun _ _ => (upd_ne h1).trans upd_same
  refine ⟨_, rfl, x2, l2, rfl, .inl (hl _ k2).2.1, fun p2 n2 => ⟨p2, _, upd_same, True.intro, fun o2 => ?_⟩⟩
  have n2H : H p2 = none := k2.dom _ n2
  have h2 : p2 ≠ o := fun z => by rw [z, eo] at n2H; cases n2H
  have h12 : p1 ≠ p2 := ne_of_none (f1 _ _) n2
  refine ⟨_, rfl, o, dx, [("name", .str a.nam), ("parameters", .ref p1)], rfl, (upd_ne (Ne.symm h2)).trans ((upd_ne (Ne.symm h2)).trans upd_same), (by decide : (2 : Nat) < 1000), ?_⟩
  have k3 := ((k2.new (o := .lst l2) n2).own (o := .frz o2 (.lst l2)) n2H).wr (p := o) (o := .ins (He.ga K "Actor") dx [("name", .str a.nam), ("parameters", .ref p1), ("states", .ref p2)]) (by simp) ((upd_ne (Ne.symm h2)).trans ((upd_ne (Ne.symm h2)).trans upd_same))
  have f2 : ∀ (Hx : Hp) (u v w : HO), (upd (upd (upd (upd (upd Hx p1 (.frz o1 (.lst l1))) o u) p2 v) p2 (.frz o2 (.lst l2))) o w) p1 = some (.frz o1 (.lst l1)) := fun _ _ _ _ => (upd_ne h1).trans ((upd_ne h12).trans ((upd_ne h12).trans (f1 _ _)))
  refine ⟨_, rfl, x3, l3, rfl, .inl (hl _ k3).2.2, fun p3 n3 => ⟨p3, _, upd_same, True.intro, fun o3 => ?_⟩⟩
  have n3H : H p3 = none := k3.dom _ n3
  have h3 : p3 ≠ o := fun z => by rw [z, eo] at n3H; cases n3H
  have h13 : p1 ≠ p3 := ne_of_none (f2 _ _ _ _) n3
  have h23 : p2 ≠ p3 := ne_of_none ((upd_ne h2).trans upd_same) n3
  refine ⟨_, rfl, o, dx, [("name", .str a.nam), ("parameters", .ref p1), ("states", .ref p2)], rfl, (upd_ne (Ne.symm h3)).trans ((upd_ne (Ne.symm h3)).trans upd_same), (by decide : (3 : Nat) < 1000), ?_⟩
  have k4 := ((k3.new (o := .lst l3) n3).own (o := .frz o3 (.lst l3)) n3H).wr (p := o) (o := .ins (He.ga K "Actor") dx [("name", .str a.nam), ("parameters", .ref p1), ("states", .ref p2), ("handlers", .ref p3)]) (by simp) ((upd_ne (Ne.symm h3)).trans ((upd_ne (Ne.symm h3)).trans upd_same))
  refine q _ (.ref p1) (.ref p2) (.ref p3) k4 upd_same (.lst (o := o1) ?_ (d1.mono k4)) (.lst (o := o2) ?_ (d2.mono k4)) (.lst (o := o3) ?_ (d3.mono k4))
  · exact (upd_ne h1).trans ((upd_ne h13).trans ((upd_ne h13).trans (f2 _ _ _ _)))
  · exact (upd_ne h2).trans ((upd_ne h23).trans ((upd_ne h23).trans ((upd_ne h2).trans upd_same)))
  · exact (upd_ne h3).trans upd_same
def spPi (K : PySem.W.Frag) : Sp := fun vs H Q _ => ∃ o dx, ∃ prg : Prg, ∃ x1 x2 l1 l2, vs = [.ref o, .ref x1, .ref x2] ∧ H o = some (.ins (He.ga K "Program") dx []) ∧ (∀ Ha, Kp [o] H Ha → SqL K Ha x1 l1 ∧ SqL K Ha x2 l2) ∧ Dl H l1 (prg.effs.map efD) ∧ AsAt K H l2 prg.acts ∧
  ∀ Ha ve l ol xs, Kp [o] H Ha → Ha o = some (.ins (He.ga K "Program") dx [("effects", ve), ("actors", .ref l)]) → Ha l = some (.frz ol (.lst xs)) → AsAt K Ha xs prg.acts → Di Ha ve (.list (prg.effs.map efD)) → Q .non Ha
theorem ok_Program_init (T : Tx K mg) : FnOk P w K mg base (L2N.CX P w) 1 (He.ma K (He.ga K "Program") "__init__") T.fd_Program_init P_Program_init (spPi K) := by
  refine T.D_Program_init.ok sc_Program_init (fun vs H Q E h => by obtain ⟨o, dx, prg, x1, x2, l1, l2, rfl, _⟩ := h; rfl) fun cdv A outer s H vs Q E hr h => ⟨_, (pss_cons (ps_fe T.c_Program T.n_Program_effects (pv 0) (pe_fz (pe_callTy call_list_of (by rfl) T.f_list (by decide +kernel) (pa_cons (pv 1) pa_nil))))
    (pss_one (ps_fe T.c_Program T.n_Program_actors (pv 0) (pe_fz (pe_callTy call_list_of (by rfl) T.f_list (by decide +kernel) (pa_cons (pv 2) pa_nil)))))), ?_⟩
  obtain ⟨o, dx, prg, x1, x2, l1, l2, rfl, eo, hl, d1, d2, q⟩ := h
  refine ⟨_, rfl, x1, l1, rfl, .inl (hl _ .refl).1, fun p1 n1 => ⟨p1, _, upd_same, True.intro, fun o1 => ?_⟩⟩
  have h1 : p1 ≠ o := fun z => by rw [z, eo] at n1; cases n1
  have e1 : (upd (upd H p1 (.lst l1)) p1 (.frz o1 (.lst l1))) o = some (.ins (He.ga K "Program") dx []) := (upd_ne (Ne.symm h1)).trans ((upd_ne (Ne.symm h1)).trans eo)
  refine ⟨_, rfl, o, dx, [], rfl, e1, (by decide : (0 : Nat) < 1000), ?_⟩
  have k2 : Kp [o] H (upd (upd (upd H p1 (.lst l1)) p1 (.frz o1 (.lst l1))) o (.ins (He.ga K "Program") dx [("effects", .ref p1)])) := ((Kp.refl.new n1).own n1).wr (by simp) e1
  refine ⟨_, rfl, x2, l2, rfl, .inl (hl _ k2).2, fun p2 n2 => ⟨p2, _, upd_same, True.intro, fun o2 => ?_⟩⟩
  have n2H : H p2 = none := k2.dom _ n2
  have h2 : p2 ≠ o := fun z => by rw [z, eo] at n2H; cases n2H
  have h12 : p1 ≠ p2 := ne_of_none ((upd_ne h1).trans upd_same) n2
  refine ⟨_, rfl, o, dx, [("effects", .ref p1)], rfl, (upd_ne (Ne.symm h2)).trans ((upd_ne (Ne.symm h2)).trans upd_same), (by decide : (1 : Nat) < 1000), ?_⟩
  have k3 := ((k2.new (o := .lst l2) n2).own (o := .frz o2 (.lst l2)) n2H).wr (p := o) (o := .ins (He.ga K "Program") dx [("effects", .ref p1), ("actors", .ref p2)]) (by simp) ((upd_ne (Ne.symm h2)).trans ((upd_ne (Ne.symm h2)).trans upd_same))
  refine q _ (.ref p1) p2 o2 l2 k3 upd_same ((upd_ne h2).trans upd_same) (d2.mono k3) (.lst (o := o1) ?_ (d1.mono k3))
  exact (upd_ne h1).trans ((upd_ne h12).trans ((upd_ne h12).trans ((upd_ne h1).trans upd_same)))
end
end Rk
/-! retroact.program: actor_parts, same_program. -/
namespace Rk
open PySem PySem.Spec PyProof.Rows L2
section
variable {K : PySem.W.Frag} {mg : Str → Option Value} {P : Program} {w : World} {base : Heap}
def spAt (K : PySem.W.Frag) : Sp := fun vs H Q _ => ∃ p o dx nm v1 v2 v3, vs = [.ref p] ∧ H p = some (.frz o (.ins (He.ga K "Actor") dx [("name", nm), ("parameters", v1), ("states", v2), ("handlers", v3)])) ∧ ∀ t, H t = none → Q (.ref t) (upd H t (.tup [nm, v1, v2, v3]))
theorem ok_actor_parts (T : Tx K mg) : FnOk P w K mg base (L2N.CX P w) 1 (He.ga K "actor_parts") T.fd_actor_parts P_actor_parts (spAt K) := by
  refine T.D_actor_parts.ok sc_actor_parts (fun vs H Q E h => by obtain ⟨p, o, dx, nm, v1, v2, v3, rfl, _⟩ := h; rfl) fun cdv A outer s H vs Q E hr h => ⟨_, (pss_one (ps_ret (pe_tup (pa_cons (pe_att T.c_Actor T.n_Actor_name (pv 0)) (pa_cons (pe_att T.c_Actor T.n_Actor_parameters (pv 0)) (pa_cons (pe_att T.c_Actor T.n_Actor_states (pv 0)) (pa_cons (pe_att T.c_Actor T.n_Actor_handlers (pv 0)) pa_nil))))))), ?_⟩
  obtain ⟨p, o, dx, nm, v1, v2, v3, rfl, ep, q⟩ := h
  exact ⟨_, rfl, p, o, dx, _, _, rfl, ep, rfl, _, rfl, p, o, dx, _, _, rfl, ep, rfl, _, rfl, p, o, dx, _, _, rfl, ep, rfl, _, rfl, p, o, dx, _, _, rfl, ep, rfl, by show 4 ≤ sizeLine; decide, fun t nt => q t nt⟩
/-- the parts of actors, one row for each -/
def Prts (K : PySem.W.Frag) (H : Hp) : List V → List (List V) → Prop
  | [], [] => True
  | x :: r, q :: t => (∃ p o dx n a b c, x = .ref p ∧ H p = some (.frz o (.ins (He.ga K "Actor") dx [("name", .str n), ("parameters", .ref a), ("states", .ref b), ("handlers", .ref c)])) ∧ q = [.str n, .ref a, .ref b, .ref c]) ∧ Prts K H r t
  | _, _ => False
theorem prts_of {H : Hp} : ∀ {xs : List V} {as : List Act}, AsAt K H xs as → ∃ qs, Prts K H xs qs ∧ qs.length = xs.length
  | [], [], _ => ⟨[], trivial, rfl⟩
  | x :: r, a :: t, ⟨h, c⟩ => by
    obtain ⟨qs, h1, h2⟩ := prts_of c
    obtain ⟨p, o, dx, vp, vs, vh, rfl, e, d1, d2, d3⟩ := h
    obtain ⟨x1, _, _, rfl, _, _⟩ := d1.inv_lst
    obtain ⟨x2, _, _, rfl, _, _⟩ := d2.inv_lst
    obtain ⟨x3, _, _, rfl, _, _⟩ := d3.inv_lst
    exact ⟨_ :: qs, ⟨⟨p, o, dx, a.nam, x1, x2, x3, rfl, e, rfl⟩, h1⟩, by simp [h2]⟩
  | [], _ :: _, q => q.elim
  | _ :: _, [], q => q.elim
theorem Prts.at {H : Hp} : ∀ {xs : List V} {qs : List (List V)} {i : Nat} {x : V}, Prts K H xs qs → xs[i]? = some x → ∃ q, qs[i]? = some q ∧ ∃ p o dx n a b c, x = .ref p ∧ H p = some (.frz o (.ins (He.ga K "Actor") dx [("name", .str n), ("parameters", .ref a), ("states", .ref b), ("handlers", .ref c)])) ∧ q = [.str n, .ref a, .ref b, .ref c]
  | x :: r, q :: t, 0, _, ⟨h, _⟩, e => by simp only [List.getElem?_cons_zero] at e ⊢; cases e; exact ⟨q, rfl, h⟩
  | _ :: r, _ :: t, i + 1, _, ⟨_, c⟩, e => by simp only [List.getElem?_cons_succ] at e ⊢; exact Prts.at c e
  | [], _, _, _, _, e => by simp at e
  | _ :: _, [], _, _, q, _ => q.elim
/-- tuples that hold the rows -/
def TpAt (H : Hp) : List Addr → List (List V) → Prop
  | [], [] => True
  | t :: r, q :: s => H t = some (.tup q) ∧ TpAt H r s
  | _, _ => False
theorem TpAt.mono {L : List Addr} {H Ha : Hp} (k : Kp L H Ha) : ∀ {ts : List Addr} {qs : List (List V)}, TpAt H ts qs → TpAt Ha ts qs
  | [], [], _ => trivial
  | _ :: _, _ :: _, ⟨a, b⟩ => ⟨k.tup _ _ a, TpAt.mono k b⟩
  | [], _ :: _, q => q.elim
  | _ :: _, [], q => q.elim
theorem TpAt.app {H : Hp} {t : Addr} {q : List V} (h : H t = some (.tup q)) : ∀ {ts : List Addr} {qs : List (List V)}, TpAt H ts qs → TpAt H (ts ++ [t]) (qs ++ [q])
  | [], [], _ => ⟨h, trivial⟩
  | _ :: _, _ :: _, ⟨a, b⟩ => ⟨a, TpAt.app h b⟩
  | [], _ :: _, q => q.elim
  | _ :: _, [], q => q.elim
theorem TpAt.eq {H Hx : Hp} : ∀ {t1 t2 : List Addr} {qs : List (List V)} {xs : List V}, Prts K Hx xs qs → TpAt H t1 qs → TpAt H t2 qs → Paired (EqT K H 60) (t1.map V.ref) (t2.map V.ref)
  | [], [], [], _, _, _, _ => .nil
  | a :: t1, b :: t2, q :: qs, x :: xs, ⟨⟨p, o, dx, n, y1, y2, y3, _, _, eq⟩, hp⟩, ⟨h1, r1⟩, ⟨h2, r2⟩ => by
    subst eq
    exact .cons (.inr (.inr (.inr ⟨a, b, _, _, rfl, rfl, SqT.of h1, SqT.of h2, .cons (.inl ⟨rfl, rfl⟩) (.cons (.inr (.inl ⟨y1, rfl, rfl⟩)) (.cons (.inr (.inl ⟨y2, rfl, rfl⟩)) (.cons (.inr (.inl ⟨y3, rfl, rfl⟩)) .nil)))⟩))) (TpAt.eq hp r1 r2)
  | [], _ :: _, [], _, _, _, q => q.elim
  | [], _, _ :: _, _, _, q, _ => q.elim
  | _ :: _, _, [], _, _, q, _ => q.elim
  | _ :: _, [], _ :: _, _, _, _, q => q.elim
  | _, _, _ :: _, [], q, _, _ => q.elim
def spSp (K : PySem.W.Frag) : Sp := fun vs H Q _ => ∃ v prg, vs = [v, v] ∧ PrgAt K H v prg ∧ prg.acts.length ≤ 100 ∧ ∀ Ha, Kp [] H Ha → Q (.bl true) Ha
theorem ok_same_program (T : Tx K mg) : FnOk P w K mg base (L2N.CX P w) 2 (He.ga K "same_program") T.fd_same_program P_same_program (spSp K) := by
  refine T.D_same_program.ok sc_same_program (fun vs H Q E h => by obtain ⟨v, prg, rfl, _⟩ := h; rfl) fun cdv A outer s H vs Q E hr h => ⟨_, (pss_cons (ps_if (pt_cmpR (op_neT hr.units) (pe_att T.c_Program T.n_Program_effects (pv 0)) (pe_att T.c_Program T.n_Program_effects (pv 1)) (nomark _))
    (pss_one (ps_ret pe_bl))
    pss_nil)
    (pss_one (ps_ret (pe_cmpR (op_eqT hr.units) (pe_lc (own := [("actor", 2)]) rfl sc_same_program.nd (pi_list (pe_att T.c_Program T.n_Program_actors (pv 0))) (blkOk_by (own := [("actor", 2)]) (N := N_same_program) (sc := defScope s_same_program) (by decide +kernel)) (fun _ _ _ _ _ => (pg_name (i := 2) sc_same_program.nd rfl (.inl rfl))) (fun _ _ _ _ _ => pts_nil) (fun _ _ _ _ _ => (pe_call (ok_actor_parts T) (hr.mono (by decide)) rfl T.g_actor_parts T.p_actor_parts T.b_actor_parts .nil pass0 (pa_cons (pv 2) pa_nil)))) (pe_lc (own := [("actor", 2)]) rfl sc_same_program.nd (pi_list (pe_att T.c_Program T.n_Program_actors (pv 1))) (blkOk_by (own := [("actor", 2)]) (N := N_same_program) (sc := defScope s_same_program) (by decide +kernel)) (fun _ _ _ _ _ => (pg_name (i := 2) sc_same_program.nd rfl (.inl rfl))) (fun _ _ _ _ _ => pts_nil) (fun _ _ _ _ _ => (pe_call (ok_actor_parts T) (hr.mono (by decide)) rfl T.g_actor_parts T.p_actor_parts T.b_actor_parts .nil pass0 (pa_cons (pv 2) pa_nil)))) (nomark _))))), ?_⟩
  obtain ⟨v, prg, rfl, hp, few, q⟩ := h
  obtain ⟨p, o, dx, ve, l, ol, xs, rfl, ep, el, as, de⟩ := hp
  obtain ⟨qs, hq, lq⟩ := prts_of as
  have lx := as.len
  have few2 : xs.length ≤ 100 := by omega
  have efs : ∀ e : Str × Int, dpt (efD e) ≤ 10 := fun e => by simp [efD, dpt, dptL]
  refine ⟨_, rfl, p, o, dx, _, _, rfl, ep, rfl, _, rfl, p, o, dx, _, _, rfl, ep, rfl, eq2_lst (by have := dptL_map efs prg.effs; omega) de de, _, rfl, iF rfl ?_⟩
  -- one row of parts, read from a heap that keeps
  have turn : ∀ {Hb : Hp} {i : Nat} {x : V}, Kp [] H Hb → xs[i]? = some x → ∃ p2 o2 dx2 nm v1 v2 v3, x = .ref p2 ∧ Hb p2 = some (.frz o2 (.ins (He.ga K "Actor") dx2 [("name", nm), ("parameters", v1), ("states", v2), ("handlers", v3)])) ∧ qs[i]? = some [nm, v1, v2, v3] := fun {Hb i x} kb hx => by
    obtain ⟨q, hqi, p2, o2, dx2, n, y1, y2, y3, ex, e2, eq⟩ := hq.at hx
    exact ⟨p2, o2, dx2, _, _, _, _, ex, kb.frz _ _ _ e2, by rw [hqi, eq]⟩
  refine ⟨_, rfl, p, o, dx, _, _, rfl, ep, rfl, l, rfl, ⟨xs, .inl (.inr ⟨ol, el⟩)⟩, fun L nL => lc_list (xs := xs) (fun i Hb => ∃ ts, Kp [] H Hb ∧ Hb L = some (.lst (ts.map V.ref)) ∧ ts.length = i ∧ TpAt Hb ts (qs.take i)) ⟨[], Kp.refl.new nL, upd_same, rfl, trivial⟩ (fun i Hb _ ⟨_, kb, _⟩ => .inl (.inr ⟨ol, kb.frz _ _ _ el⟩)) (fun i x Hb hx ⟨ts, kb, eL, lt, tp⟩ => ?_) fun Hb ⟨ts, kb, eL, lt, tp⟩ => ?_⟩
  · obtain ⟨p2, o2, dx2, nm, v1, v2, v3, rfl, e2, hqi⟩ := turn kb hx
    refine ⟨rfl, iT (B := ∃ ts, Kp [] H Hb ∧ Hb L = some (.lst (ts.map V.ref)) ∧ ts.length = i + 1 ∧ TpAt Hb ts (qs.take (i + 1))) rfl ⟨_, rfl, p2, o2, dx2, nm, v1, v2, v3, rfl, e2, fun t nt => ?_⟩⟩
    have hLt : L ≠ t := ne_of_none eL nt
    have kt : Kp [] H (upd Hb t (.tup [nm, v1, v2, v3])) := kb.new nt
    have k1 : Kp [] Hb (upd Hb t (.tup [nm, v1, v2, v3])) := Kp.refl.new nt
    have eL2 := k1.same _ _ eL
    have kw : Kp [L] (upd Hb t (.tup [nm, v1, v2, v3])) (upd (upd Hb t (.tup [nm, v1, v2, v3])) L (.lst (ts.map V.ref ++ [.ref t]))) := Kp.refl.wr (by simp) eL2
    refine ⟨_, eL2, by rw [List.length_map, lt]; have := (List.getElem?_eq_some_iff.mp hx).1; exact small' (by omega), ts ++ [t], kt.own nL, ?_, by rw [List.length_append, lt]; rfl, ?_⟩
    · rw [upd_same, List.map_append]; rfl
    · rw [List.take_add_one, hqi]
      exact TpAt.app (kw.tup _ _ upd_same) ((tp.mono k1).mono kw)
  · rw [← lq, List.take_length] at tp
    refine ⟨_, rfl, p, o, dx, _, _, rfl, kb.frz _ _ _ ep, rfl, l, rfl, ⟨xs, .inl (.inr ⟨ol, kb.frz _ _ _ el⟩)⟩, fun M nM => ?_⟩
    have nMH := kb.dom _ nM
    refine lc_list (xs := xs) (fun i Hc => ∃ t2, Kp [] Hb Hc ∧ Hc M = some (.lst (t2.map V.ref)) ∧ t2.length = i ∧ TpAt Hc t2 (qs.take i)) ⟨[], Kp.refl.new nM, upd_same, rfl, trivial⟩ (fun i Hc _ ⟨_, kc, _⟩ => .inl (.inr ⟨ol, (kb.trans kc).frz _ _ _ el⟩)) (fun i x Hc hx ⟨t2, kc, eM, l2, tp2⟩ => ?_) fun Hc ⟨t2, kc, eM, l2, tp2⟩ => ?_
    · obtain ⟨p2, o2, dx2, nm, v1, v2, v3, rfl, e2, hqi⟩ := turn (kb.trans kc) hx
      refine ⟨rfl, iT (B := ∃ t2, Kp [] Hb Hc ∧ Hc M = some (.lst (t2.map V.ref)) ∧ t2.length = i + 1 ∧ TpAt Hc t2 (qs.take (i + 1))) rfl ⟨_, rfl, p2, o2, dx2, nm, v1, v2, v3, rfl, e2, fun t nt => ?_⟩⟩
      have k1 : Kp [] Hc (upd Hc t (.tup [nm, v1, v2, v3])) := Kp.refl.new nt
      have eM2 := k1.same _ _ eM
      have kw : Kp [M] (upd Hc t (.tup [nm, v1, v2, v3])) (upd (upd Hc t (.tup [nm, v1, v2, v3])) M (.lst (t2.map V.ref ++ [.ref t]))) := Kp.refl.wr (by simp) eM2
      refine ⟨_, eM2, by rw [List.length_map, l2]; have := (List.getElem?_eq_some_iff.mp hx).1; exact small' (by omega), t2 ++ [t], (kc.new nt).own nM, ?_, by rw [List.length_append, l2]; rfl, ?_⟩
      · rw [upd_same, List.map_append]; rfl
      · rw [List.take_add_one, hqi]
        exact TpAt.app (kw.tup _ _ upd_same) ((tp2.mono k1).mono kw)
    · rw [← lq, List.take_length] at tp2
      exact ⟨⟨L, M, _, _, 60, rfl, rfl, Nat.le_refl _, .inl ⟨SqL.of (kc.same _ _ eL), SqL.of eM⟩, TpAt.eq hq (tp.mono kc) tp2⟩, q Hc (kb.trans kc)⟩
end
end Rk
/-! the law: its draws. -/
namespace Rk
open PySem PySem.Spec PyProof.Rows L2
theorem iE {b : Bool} {A B : Prop} (h1 : b = true → A) (h2 : b = false → B) : if b = true then A else B := by
  cases b with
  | true => exact h1 rfl
  | false => exact h2 rfl
/-- or: the way of true once -/
theorem iOr {c : Bool} {A R : Prop} (hA : A) (h : c = false → A → R) : if c = true then A else R := by
  cases c with
  | true => exact hA
  | false => exact h rfl hA
/-- and: the way of false once -/
theorem iAn {c : Bool} {B R : Prop} (hB : B) (h : c = true → B → R) : if c = true then R else B := by
  cases c with
  | true => exact h rfl hB
  | false => exact hB
theorem pick {xs : List V} {j : Int} (h0 : 0 ≤ j) (h1 : j < xs.length) : ∃ v, atI xs j = some v ∧ v ∈ xs := by
  obtain ⟨k, rfl⟩ : ∃ k : Nat, j = k := ⟨j.toNat, by omega⟩
  have lt : k < xs.length := by omega
  exact ⟨xs[k], atI_nat (List.getElem?_eq_getElem lt), List.getElem_mem lt⟩
section
variable {K : PySem.W.Frag} {mg : Str → Option Value} {P : Program} {w : World} {base : Heap}
/-- the law's own state of its draws -/
def LsAt (H : Hp) (S : Addr) : Prop := ∃ sl o, ∃ scr : List Int, ∃ a b c d : Int, H S = some (.lst [.ref sl, .int a, .int b, .int c, .int d]) ∧ H sl = some (.frz o (.lst (scr.map V.int))) ∧ 0 ≤ a
theorem LsAt.mono {L : List Addr} {H Ha : Hp} {S : Addr} (h : LsAt H S) (k : Kp L H Ha) (n : S ∉ L) : LsAt Ha S := let ⟨sl, o, scr, a, b, c, d, e, e2, z⟩ := h; ⟨sl, o, scr, a, b, c, d, k.kp _ _ n e, k.frz _ _ _ e2, z⟩
theorem LsAt.keep {H Ha : Hp} {S : Addr} (h : LsAt H S) (k : Kp [] H Ha) : LsAt Ha S := h.mono k fun m => nomatch m
theorem LsAt.new {H : Hp} {S p : Addr} {o : HO} (h : LsAt H S) (n : H p = none) : LsAt (upd H p o) S := h.keep (Kp.refl.new n)
theorem LsAt.ne {H : Hp} {S p : Addr} (h : LsAt H S) (n : H p = none) : p ≠ S := fun z => by obtain ⟨_, _, _, _, _, _, _, e, _⟩ := h; rw [z, e] at n; cases n
theorem LsAt.nef {H : Hp} {S p : Addr} {o : Obj} {u : HO} (h : LsAt H S) (n : H p = some (.frz o u)) : p ≠ S := fun z => by obtain ⟨_, _, _, _, _, _, _, e, _⟩ := h; rw [z, e] at n; cases n
def spLs (K : PySem.W.Frag) : Sp := fun vs H Q _ => ∃ x, ∃ scr : List Int, vs = [.ref x] ∧ SqL K H x (scr.map V.int) ∧ ∀ Ha S, Kp [] H Ha → H S = none → LsAt Ha S → Q (.ref S) Ha
theorem ok_law_state (T : Tx K mg) : FnOk P w K mg base (L2N.CX P w) 1 (He.ga K "_law_state") T.fd_law_state P_law_state (spLs K) := by
  refine T.D_law_state.ok sc_law_state (fun vs H Q E h => by obtain ⟨x, scr, rfl, _⟩ := h; rfl) fun cdv A outer s H vs Q E hr h => ⟨_, (pss_one (ps_ret (pe_lst (pa_cons (pe_fz (pe_callTy call_list_of (by rfl) T.f_list (by decide +kernel) (pa_cons (pv 0) pa_nil))) (pa_cons pe_int (pa_cons pe_int (pa_cons pe_int (pa_cons pe_int pa_nil)))))))), ?_⟩
  obtain ⟨x, scr, rfl, e, q⟩ := h
  refine ⟨_, rfl, x, _, rfl, .inl e, fun l nl => ⟨l, _, upd_same, True.intro, fun o => ⟨by show 5 ≤ sizeLine; decide, fun S nS => ?_⟩⟩⟩
  have k1 : Kp [] H (upd (upd H l (.lst (scr.map V.int))) l (.frz o (.lst (scr.map V.int)))) := (Kp.refl.new nl).own nl
  exact q _ S (k1.new nS) (k1.dom _ nS) ⟨l, o, scr, 0, 0, 1, 0, upd_same, (upd_ne (ne_of_none upd_same nS)).trans upd_same, Int.le_refl _⟩
def spDr : Sp := fun vs H Q _ => ∃ S m, vs = [.ref S, .int m] ∧ LsAt H S ∧ 0 < m ∧ m < 1000000 ∧ ∀ Ha j, Kp [S] H Ha → LsAt Ha S → 0 ≤ j → j < m → Q (.int j) Ha
theorem ok_law_draw (T : Tx K mg) : FnOk P w K mg base (L2N.CX P w) 1 (He.ga K "_law_draw") T.fd_law_draw P_law_draw spDr := by
  refine T.D_law_draw.ok sc_law_draw (fun vs H Q E h => by obtain ⟨S, m, rfl, _⟩ := h; rfl) fun cdv A outer s H vs Q E hr h => ⟨_, (Evl.pss_cut (ps_if (PW.pt (pw_and (pt_cmpR op_gt (pe_ix ix_list (pv 0) pe_int (fun _ _ => rfl)) pe_int (nomark _)) (pw_and1 (pt_cmpR op_gt (pe_ix ix_list (pv 0) pe_int (fun _ _ => rfl)) pe_int (nomark _)))))
    (pss_cons (ps_set (i := 2) sc_law_draw.nd rfl (.inl rfl) (pe_op op_mod (pe_callTy call_int1 (by rfl) T.f_int (by decide +kernel) (pa_cons (pe_ix ix_list (pv 0) pe_int (fun _ _ => rfl)) pa_nil)) (pv 1)))
    (pss_cons (ps_asg (pe_op op_fdivN (pe_ix ix_list (pv 0) pe_int (fun _ _ => rfl)) (pv 1)) (pg_sub (pv 0) pe_int set_list))
    (pss_cons (ps_asg (pe_op op_sub (pe_ix ix_list (pv 0) pe_int (fun _ _ => rfl)) pe_int) (pg_sub (pv 0) pe_int set_list))
    (pss_one (ps_ret (pv 2))))))
    pss_nil)
    (pss_cons (ps_set (i := 3) sc_law_draw.nd rfl (.inl rfl) (pe_op op_add (pe_ix ix_list (pv 0) pe_int (fun _ _ => rfl)) (pe_op op_mul pe_int (pe_ix ix_list (pv 0) pe_int (fun _ _ => rfl)))))
    (Evl.pss_cut (ps_if (pt_cmpR op_lt (pe_ix ix_list (pv 0) pe_int (fun _ _ => rfl)) (pe_callB call_len_seq (by rfl) T.f_len (by decide +kernel) (pa_cons (pe_ix ix_list (pv 0) pe_int (fun _ _ => rfl)) pa_nil)) (nomark _))
    (pss_one (ps_set (i := 3) sc_law_draw.nd rfl (.inl rfl) (pe_ix ix_list (pe_ix ix_list (pv 0) pe_int (fun _ _ => rfl)) (pe_ix ix_list (pv 0) pe_int (fun _ _ => rfl)) (fun _ _ => rfl))))
    pss_nil)
    (pss_cons (ps_asg (pe_op op_add (pe_ix ix_list (pv 0) pe_int (fun _ _ => rfl)) pe_int) (pg_sub (pv 0) pe_int set_list))
    (pss_cons (ps_if (pt_cmpR op_ge (pv 3) (pe_op op_pow pe_int pe_int) (nomark _))
    (pss_cons (ps_asg (pe_op op_fdivN (pv 3) (pv 1)) (pg_sub (pv 0) pe_int set_list))
    (pss_cons (ps_asg pe_int (pg_sub (pv 0) pe_int set_list))
    (pss_one (ps_ret (pe_op op_mod (pe_callTy call_int1 (by rfl) T.f_int (by decide +kernel) (pa_cons (pv 3) pa_nil)) (pv 1))))))
    pss_nil)
    (pss_cons (ps_set (i := 4) sc_law_draw.nd rfl (.inl rfl) (pe_op op_mod (pe_callTy call_int1 (by rfl) T.f_int (by decide +kernel) (pa_cons (pe_op op_add (pe_op op_add (pe_op op_mul (pv 3) pe_int) (pe_op op_mul (pe_ix ix_list (pv 0) pe_int (fun _ _ => rfl)) pe_int)) (pe_ix ix_list (pv 0) pe_int (fun _ _ => rfl))) pa_nil)) pe_int))
    (pss_cons (ps_asg (pe_op op_mod (pe_callTy call_int1 (by rfl) T.f_int (by decide +kernel) (pa_cons (pe_op op_add (pe_op op_add (pe_op op_mul (pv 4) pe_int) (pe_op op_mul (pv 4) (pv 4))) pe_int) pa_nil)) pe_int) (pg_sub (pv 0) pe_int set_list))
    (pss_one (ps_ret (pe_op op_mod (pe_callTy call_int1 (by rfl) T.f_int (by decide +kernel) (pa_cons (pe_op op_fdivN (pe_ix ix_list (pv 0) pe_int (fun _ _ => rfl)) pe_int) pa_nil)) (pv 1))))))))))), ?_⟩
  obtain ⟨S, m, rfl, ⟨sl, o, scr, a, b, c, d, eS, el, a0⟩, m0, m1, q⟩ := h
  refine ⟨fun σ Ha => σ = [some (.ref S), some (.int m), none, none, none] ∧ Ha = H, ?_, ?_⟩
  · refine ⟨_, rfl, S, _, _, .int d, rfl, rfl, SqL.of eS, rfl, _, _, rfl, rfl, _, rfl, ?_⟩
    by_cases d0 : 0 < d
    · refine iT (decide_eq_true d0) ⟨_, rfl, S, _, _, .int b, rfl, rfl, SqL.of eS, rfl, _, _, rfl, rfl, _, rfl, ?_⟩
      by_cases b0 : 0 < b
      · refine iT (decide_eq_true b0) ?_
        refine ⟨_, rfl, S, _, _, .int b, rfl, rfl, SqL.of eS, rfl, .inl ⟨_, rfl, _, rfl, _, _, rfl, rfl, m0, ?_⟩⟩
        refine ⟨_, rfl, S, _, _, .int b, rfl, rfl, SqL.of eS, rfl, _, rfl, _, _, rfl, rfl, ⟨by omega, by omega⟩, _, rfl, S, _, _, _, rfl, rfl, eS, rfl, ?_⟩
        refine ⟨_, rfl, S, _, _, .int d, rfl, rfl, SqL.of upd_same, rfl, _, _, rfl, rfl, _, rfl, S, _, _, _, rfl, rfl, upd_same, rfl, ?_⟩
        have k : Kp [S] H (upd (upd H S (.lst [.ref sl, .int a, .int (b.fdiv m), .int c, .int d])) S (.lst [.ref sl, .int a, .int (b.fdiv m), .int c, .int (d - 1)])) := (Kp.refl.wr (by simp) eS).wr (by simp) upd_same
        exact ⟨_, rfl, q _ _ k ⟨sl, o, scr, a, _, c, _, upd_same, k.frz _ _ _ el, a0⟩ (Int.emod_nonneg _ (by omega)) (Int.emod_lt_of_pos _ m0)⟩
      · exact iF (decide_eq_false b0) ⟨rfl, rfl⟩
    · exact iF (decide_eq_false d0) ⟨rfl, rfl⟩
  · rintro σ Ha ⟨eσ, eH⟩
    rw [eσ, eH]
    refine ⟨_, rfl, S, _, _, .int c, rfl, rfl, SqL.of eS, rfl, _, rfl, S, _, _, .int a, rfl, rfl, SqL.of eS, rfl, _, _, rfl, rfl, .inl ⟨by decide, by decide⟩, _, _, rfl, rfl, ?_⟩
    refine ⟨fun σ Hb => (∃ cell : Int, σ = [some (.ref S), some (.int m), none, some (.int cell), none]) ∧ Hb = H, ?_, ?_⟩
    · refine ⟨_, rfl, S, _, _, .int a, rfl, rfl, SqL.of eS, rfl, _, rfl, S, _, _, .ref sl, rfl, rfl, SqL.of eS, rfl, sl, _, rfl, .inl (.inl (.inr ⟨o, el⟩)), _, _, rfl, rfl, _, rfl, ?_⟩
      by_cases lt : a < (scr.map V.int).length
      · refine iT (decide_eq_true lt) ?_
        obtain ⟨v, av, mv⟩ := pick a0 lt
        obtain ⟨x, _, rfl⟩ := List.mem_map.mp mv
        exact ⟨_, rfl, S, _, _, .ref sl, rfl, rfl, SqL.of eS, rfl, _, rfl, S, _, _, .int a, rfl, rfl, SqL.of eS, rfl, sl, _, _, .int x, rfl, rfl, .inl (.inr ⟨o, el⟩), av, ⟨x, rfl⟩, rfl⟩
      · exact iF (decide_eq_false lt) ⟨⟨_, rfl⟩, rfl⟩
    · rintro σ Hb ⟨⟨cell, eσ⟩, eH⟩
      rw [eσ, eH]
      refine ⟨_, rfl, S, _, _, .int a, rfl, rfl, SqL.of eS, rfl, _, _, rfl, rfl, _, rfl, S, _, _, _, rfl, rfl, eS, rfl, ?_⟩
      refine ⟨_, rfl, _, _, rfl, rfl, ⟨by decide, by decide, by decide⟩, _, _, rfl, rfl, _, rfl, iE (fun _ => ?_) fun _ => ?_⟩
      · refine ⟨_, rfl, _, rfl, _, _, rfl, rfl, ⟨by omega, by omega⟩, _, rfl, S, _, _, _, rfl, rfl, upd_same, rfl, ?_⟩
        refine ⟨_, rfl, S, _, _, _, rfl, rfl, upd_same, rfl, _, rfl, .inl ⟨_, rfl, _, rfl, _, _, rfl, rfl, m0, ?_⟩⟩
        have k : Kp [S] H (upd (upd (upd H S (.lst [.ref sl, .int (a + 1), .int b, .int c, .int d])) S (.lst [.ref sl, .int (a + 1), .int (cell.fdiv m), .int c, .int d])) S (.lst [.ref sl, .int (a + 1), .int (cell.fdiv m), .int c, .int 60])) := ((Kp.refl.wr (by simp) eS).wr (by simp) upd_same).wr (by simp) upd_same
        exact q _ _ k ⟨sl, o, scr, a + 1, _, c, _, upd_same, k.frz _ _ _ el, by omega⟩ (Int.emod_nonneg _ (by omega)) (Int.emod_lt_of_pos _ m0)
      · refine ⟨_, rfl, _, _, rfl, rfl, .inr ⟨by decide, by decide⟩, _, rfl, S, _, _, .int (a + 1), rfl, rfl, SqL.of upd_same, rfl, _, _, rfl, rfl, .inr ⟨by decide, by decide⟩, _, _, rfl, rfl, _, rfl, S, _, _, .int c, rfl, rfl, SqL.of upd_same, rfl, _, _, rfl, rfl, .inl ⟨_, rfl, _, _, rfl, rfl, by show (0 : Int) < 2147483647; decide, ?_⟩⟩
        have f0 : 0 ≤ (cell * 48271 + (a + 1) * 69621 + c) % 2147483647 := Int.emod_nonneg _ (by decide)
        have f1 : (cell * 48271 + (a + 1) * 69621 + c) % 2147483647 < 2147483647 := Int.emod_lt_of_pos _ (by decide)
        refine ⟨_, rfl, _, _, rfl, rfl, .inr ⟨by decide, by decide⟩, _, rfl, _, rfl, _, _, rfl, rfl, .inl ⟨by omega, by omega⟩, _, _, rfl, rfl, _, _, rfl, rfl, .inl ⟨_, rfl, _, _, rfl, rfl, by show (0 : Int) < 2147483629; decide, _, rfl, S, _, _, _, rfl, rfl, upd_same, rfl, ?_⟩⟩
        refine ⟨_, rfl, S, _, _, .int ((((cell * 48271 + (a + 1) * 69621 + c) % 2147483647) * 16807 + ((cell * 48271 + (a + 1) * 69621 + c) % 2147483647) * ((cell * 48271 + (a + 1) * 69621 + c) % 2147483647) + 11) % 2147483629), rfl, rfl, SqL.of upd_same, rfl, _, _, rfl, rfl, ⟨by decide, by decide⟩, .inl ⟨_, rfl, _, rfl, _, _, rfl, rfl, m0, ?_⟩⟩
        have k : Kp [S] H (upd (upd H S (.lst [.ref sl, .int (a + 1), .int b, .int c, .int d])) S (.lst [.ref sl, .int (a + 1), .int b, .int ((((cell * 48271 + (a + 1) * 69621 + c) % 2147483647) * 16807 + ((cell * 48271 + (a + 1) * 69621 + c) % 2147483647) * ((cell * 48271 + (a + 1) * 69621 + c) % 2147483647) + 11) % 2147483629), .int d])) := (Kp.refl.wr (by simp) eS).wr (by simp) upd_same
        exact q _ _ k ⟨sl, o, scr, a + 1, b, _, d, upd_same, k.frz _ _ _ el, by omega⟩ (Int.emod_nonneg _ (by omega)) (Int.emod_lt_of_pos _ m0)
def spNu : Sp := fun vs H Q _ => ∃ S, vs = [.ref S] ∧ LsAt H S ∧ ∀ Ha i, Kp [S] H Ha → LsAt Ha S → Q (.int i) Ha
theorem ok_law_number (T : Tx K mg) : FnOk P w K mg base (L2N.CX P w) 2 (He.ga K "_law_number") T.fd_law_number P_law_number spNu := by
  refine T.D_law_number.ok sc_law_number (fun vs H Q E h => by obtain ⟨S, rfl, _⟩ := h; rfl) fun cdv A outer s H vs Q E hr h => ⟨_, (pss_cons (ps_set (i := 1) sc_law_number.nd rfl (.inl rfl) (pe_call (ok_law_draw T) hr rfl T.g__law_draw T.p_law_draw T.b_law_draw .nil pass0 (pa_cons (pv 0) (pa_cons pe_int pa_nil))))
    (pss_cons (ps_if (pt_cmpR op_lt (pv 1) pe_int (nomark _))
    (pss_one (ps_ret (pe_op op_sub (pe_call (ok_law_draw T) hr rfl T.g__law_draw T.p_law_draw T.b_law_draw .nil pass0 (pa_cons (pv 0) (pa_cons pe_int pa_nil))) pe_int)))
    pss_nil)
    (pss_one (ps_ret (pe_ix ix_list (pe_lst (pa_cons pe_int (pa_cons (pe_un un_neg pe_int) (pa_cons pe_int (pa_cons pe_int pa_nil))))) (pe_call (ok_law_draw T) hr rfl T.g__law_draw T.p_law_draw T.b_law_draw .nil pass0 (pa_cons (pv 0) (pa_cons (pe_op op_add pe_int (pe_callTy call_int1 (by rfl) T.f_int (by decide +kernel) (pa_cons (pe_cmpR op_eq (pe_call (ok_law_draw T) hr rfl T.g__law_draw T.p_law_draw T.b_law_draw .nil pass0 (pa_cons (pv 0) (pa_cons pe_int pa_nil))) pe_int (nomark _)) pa_nil))) pa_nil))) (fun _ _ => rfl)))))), ?_⟩
  obtain ⟨S, rfl, ls, q⟩ := h
  refine ⟨_, rfl, S, 14, rfl, ls, by decide, by decide, fun H1 j1 k1 ls1 _ _ => ⟨_, rfl, _, _, rfl, rfl, _, rfl, iE (fun _ => ?_) fun _ => ?_⟩⟩
  · exact ⟨_, rfl, S, 6, rfl, ls1, by decide, by decide, fun H2 j2 k2 ls2 _ _ => ⟨_, _, rfl, rfl, q _ _ (k1.trans k2) ls2⟩⟩
  · refine ⟨_, rfl, by show 4 ≤ sizeLine; decide, fun l nl => ?_⟩
    have ls2 := ls1.new (o := .lst [.int 1000000000, .int (-1000000000), .int 40000, .int 999999999]) nl
    have nlS := ls1.ne nl
    refine ⟨_, rfl, _, rfl, S, 6, rfl, ls2, by decide, by decide, fun H3 j3 k3 ls3 _ _ => ⟨rfl, .inr ⟨_, rfl, _, _, rfl, rfl, S, _, rfl, ls3, ?_, ?_, fun H4 j4 k4 ls4 a4 b4 => ?_⟩⟩⟩
    · cases decide (V.int j3 = V.int 0) <;> decide
    · cases decide (V.int j3 = V.int 0) <;> decide
    · have e4 := (k3.trans k4).kp l _ (by simpa using nlS) upd_same
      have b5 : j4 < ([V.int 1000000000, .int (-1000000000), .int 40000, .int 999999999] : List V).length := by
        refine Int.lt_of_lt_of_le b4 ?_
        cases decide (V.int j3 = V.int 0) <;> decide
      obtain ⟨v, av, mv⟩ := pick a4 b5
      obtain ⟨i, rfl⟩ : ∃ i, v = .int i := by
        simp only [List.mem_cons, List.not_mem_nil, or_false] at mv
        rcases mv with rfl | rfl | rfl | rfl <;> exact ⟨_, rfl⟩
      exact ⟨l, _, j4, _, rfl, rfl, SqL.of e4, av, q _ _ (((k1.new nl).trans k3).trans k4) ls4⟩
end
end Rk
/-! the law: its expressions. -/
namespace Rk
open PySem PySem.Spec PyProof.Rows L2
section
variable {K : PySem.W.Frag} {mg : Str → Option Value} {P : Program} {w : World} {base : Heap}
def spEx (n : Nat) : Sp := fun vs H Q _ => ∃ S N o d, ∃ ns : List Str, vs = [.ref S, .ref N, .int d] ∧ LsAt H S ∧ H N = some (.frz o (.lst (ns.map V.str))) ∧ ns.length ≤ 100 ∧ 0 ≤ d ∧ d.toNat < n ∧
  ∀ Ha u e, Kp [S] H Ha → LsAt Ha S → Di Ha u (exD e) → e.dep ≤ d.toNat → e.all (fun x => x ∈ ns) → Q u Ha
theorem Di.new {H : Hp} {v : V} {d : PyData} {p : Addr} {o : HO} (h : Di H v d) (n : H p = none) : Di (upd H p o) v d := h.mono (Kp.refl (L := []).new n)
theorem Dl.new {H : Hp} {v : List V} {d : List PyData} {p : Addr} {o : HO} (h : Dl H v d) (n : H p = none) : Dl (upd H p o) v d := h.mono (Kp.refl (L := []).new n)
theorem ok_law_exp (T : Tx K mg) : ∀ n, FnOk P w K mg base (L2N.CX P w) (2 + n) (He.ga K "_law_exp") T.fd_law_exp P_law_exp (spEx n)
  | 0 => fn_none fun _ _ _ _ ⟨_, _, _, _, _, _, _, _, _, _, h, _⟩ => Nat.not_lt_zero _ h
  | n + 1 => by
    refine T.D_law_exp.ok sc_law_exp (fun vs H Q E h => by obtain ⟨S, N, o, d, ns, rfl, _⟩ := h; rfl) fun cdv A outer s H vs Q E hr h => ⟨_, (pss_cons (ps_set (i := 3) sc_law_exp.nd rfl (.inl rfl) (pe_call (ok_law_draw T) (hr.mono (show 1 ≤ 2 + n by omega)) rfl T.g__law_draw T.p_law_draw T.b_law_draw .nil pass0 (pa_cons (pv 0) (pa_cons pe_int pa_nil))))
    (pss_cons (ps_if (PW.pt (pw_or (pt_cmpR op_eq (pv 2) pe_int (nomark _)) (pw_or1 (pt_cmpR op_lt (pv 3) pe_int (nomark _)))))
    (pss_cons (ps_if (PW.pt (pw_and (pt_cmpR op_lt (pv 3) pe_int (nomark _)) (pw_and1 (pt_cmpR op_gt (pe_callB call_len_seq (by rfl) T.f_len (by decide +kernel) (pa_cons (pv 1) pa_nil)) pe_int (nomark _)))))
    (pss_one (ps_ret (pe_tup (pa_cons pe_str (pa_cons (pe_ix ix_list (pv 1) (pe_call (ok_law_draw T) (hr.mono (show 1 ≤ 2 + n by omega)) rfl T.g__law_draw T.p_law_draw T.b_law_draw .nil pass0 (pa_cons (pv 0) (pa_cons (pe_callB call_len_seq (by rfl) T.f_len (by decide +kernel) (pa_cons (pv 1) pa_nil)) pa_nil))) (fun _ _ => rfl)) pa_nil)))))
    pss_nil)
    (pss_one (ps_ret (pe_tup (pa_cons pe_str (pa_cons (pe_call (ok_law_number T) (hr.mono (show 2 ≤ 2 + n by omega)) rfl T.g__law_number T.p_law_number T.b_law_number .nil pass0 (pa_cons (pv 0) pa_nil)) pa_nil))))))
    pss_nil)
    (pss_cons (ps_if (pt_cmpR op_eq (pv 3) pe_int (nomark _))
    (pss_one (ps_ret (pe_tup (pa_cons (pe_ix ix_list (pe_lst (pa_cons pe_str (pa_cons pe_str pa_nil))) (pe_call (ok_law_draw T) (hr.mono (show 1 ≤ 2 + n by omega)) rfl T.g__law_draw T.p_law_draw T.b_law_draw .nil pass0 (pa_cons (pv 0) (pa_cons pe_int pa_nil))) (fun _ _ => rfl)) (pa_cons (pe_call (ok_law_exp T n) hr rfl T.g__law_exp T.p_law_exp T.b_law_exp .nil pass0 (pa_cons (pv 0) (pa_cons (pv 1) (pa_cons (pe_op op_sub (pv 2) pe_int) pa_nil)))) pa_nil)))))
    pss_nil)
    (pss_cons (ps_set (i := 4) sc_law_exp.nd rfl (.inl rfl) (pe_ix ix_list (pe_lst (pa_cons pe_str (pa_cons pe_str (pa_cons pe_str (pa_cons pe_str (pa_cons pe_str (pa_cons pe_str (pa_cons pe_str (pa_cons pe_str (pa_cons pe_str (pa_cons pe_str (pa_cons pe_str pa_nil)))))))))))) (pe_call (ok_law_draw T) (hr.mono (show 1 ≤ 2 + n by omega)) rfl T.g__law_draw T.p_law_draw T.b_law_draw .nil pass0 (pa_cons (pv 0) (pa_cons pe_int pa_nil))) (fun _ _ => rfl)))
    (pss_one (ps_ret (pe_tup (pa_cons (pv 4) (pa_cons (pe_call (ok_law_exp T n) hr rfl T.g__law_exp T.p_law_exp T.b_law_exp .nil pass0 (pa_cons (pv 0) (pa_cons (pv 1) (pa_cons (pe_op op_sub (pv 2) pe_int) pa_nil)))) (pa_cons (pe_call (ok_law_exp T n) hr rfl T.g__law_exp T.p_law_exp T.b_law_exp .nil pass0 (pa_cons (pv 0) (pa_cons (pv 1) (pa_cons (pe_op op_sub (pv 2) pe_int) pa_nil)))) pa_nil)))))))))), ?_⟩
    obtain ⟨S, N, o, d, ns, rfl, ls, eN, few, d0, dn, q⟩ := h
    refine ⟨_, rfl, S, 11, rfl, ls, by decide, by decide, fun H1 p k1 ls1 _ _ => ⟨_, rfl, rfl, _, rfl, iOr ?_ fun c1 hA => ⟨_, rfl, _, _, rfl, rfl, _, rfl, iOr hA fun c2 _ => ?_⟩⟩⟩
    · refine ⟨_, rfl, _, _, rfl, rfl, _, rfl, iAn ?_ fun c1 hB => ⟨_, rfl, N, _, rfl, .inl (.inl (.inr ⟨o, k1.frz _ _ _ eN⟩)), _, _, rfl, rfl, _, rfl, iAn hB fun c2 _ => ?_⟩⟩
      · exact ⟨_, rfl, S, rfl, ls1, fun H2 i k2 ls2 => ⟨by show 2 ≤ sizeLine; decide, fun t nt => q _ _ (.num i) ((k1.trans k2).new nt) (ls2.new nt) (.tup upd_same (.cons (.str _) (.cons (.int _) .nil))) (Nat.zero_le _) trivial⟩⟩
      · have pos : (0 : Int) < (ns.map V.str).length := of_decide_eq_true c2
        refine ⟨_, rfl, _, rfl, _, rfl, N, _, rfl, .inl (.inl (.inr ⟨o, k1.frz _ _ _ eN⟩)), S, _, rfl, ls1, pos, by rw [List.length_map]; omega, fun H2 j k2 ls2 j0 j1 => ?_⟩
        obtain ⟨v, av, mv⟩ := pick j0 j1
        obtain ⟨x, mx, rfl⟩ := List.mem_map.mp mv
        exact ⟨N, _, j, _, rfl, rfl, .inl (.inr ⟨o, (k1.trans k2).frz _ _ _ eN⟩), av, by show 2 ≤ sizeLine; decide, fun t nt => q _ _ (.nam x) ((k1.trans k2).new nt) (ls2.new nt) (.tup upd_same (.cons (.str _) (.cons (.str _) .nil))) (Nat.zero_le _) mx⟩
    · have dne : d ≠ 0 := fun z => by rw [z] at c1; exact absurd c1 (by simp)
      refine ⟨_, rfl, rfl, _, rfl, iE (fun _ => ?_) fun _ => ?_⟩
      · refine ⟨by show 2 ≤ sizeLine; decide, fun l nl => ?_⟩
        have ls2 := ls1.new (o := .lst [.str "not", .str "negative"]) nl
        have nlS := ls1.ne nl
        refine ⟨_, rfl, S, 2, rfl, ls2, by decide, by decide, fun H2 j k2 ls3 j0 j1 => ?_⟩
        obtain ⟨v, av, mv⟩ := pick (xs := [.str "not", .str "negative"]) j0 j1
        refine ⟨l, _, j, v, rfl, rfl, SqL.of (k2.kp l _ (by simpa using nlS) upd_same), av, _, rfl, _, rfl, _, rfl, _, _, rfl, rfl, S, N, o, d - 1, ns, rfl, ls3, (((k1.new nl).trans k2).frz _ _ _ eN), few, by omega, by omega, fun H3 u e k3 ls4 de dd al => ⟨by show 2 ≤ sizeLine; decide, fun t nt => ?_⟩⟩
        have kk := ((((k1.new nl).trans k2).trans k3).new (o := .tup [v, u]) nt)
        simp only [List.mem_cons, List.not_mem_nil, or_false] at mv
        rcases mv with rfl | rfl
        · exact q _ _ (.nt e) kk (ls4.new nt) (.tup upd_same (.cons (.str _) (.cons (de.new nt) .nil))) (by show e.dep + 1 ≤ _; omega) al
        · exact q _ _ (.neg e) kk (ls4.new nt) (.tup upd_same (.cons (.str _) (.cons (de.new nt) .nil))) (by show e.dep + 1 ≤ _; omega) al
      · refine ⟨by show 11 ≤ sizeLine; decide, fun l nl => ?_⟩
        have ls2 := ls1.new (o := .lst [.str "plus", .str "minus", .str "times", .str "less", .str "atmost", .str "same", .str "and", .str "or", .str "over", .str "rest", .str "plus"]) nl
        have nlS := ls1.ne nl
        refine ⟨_, rfl, S, 11, rfl, ls2, by decide, by decide, fun H2 j k2 ls3 j0 j1 => ?_⟩
        obtain ⟨v, av, mv⟩ := pick (xs := [.str "plus", .str "minus", .str "times", .str "less", .str "atmost", .str "same", .str "and", .str "or", .str "over", .str "rest", .str "plus"]) j0 j1
        obtain ⟨op, rfl⟩ : ∃ op : Op, v = .str op.s := by
          simp only [List.mem_cons, List.not_mem_nil, or_false] at mv
          rcases mv with rfl | rfl | rfl | rfl | rfl | rfl | rfl | rfl | rfl | rfl | rfl
          · exact ⟨.plus, rfl⟩
          · exact ⟨.minus, rfl⟩
          · exact ⟨.times, rfl⟩
          · exact ⟨.less, rfl⟩
          · exact ⟨.atmost, rfl⟩
          · exact ⟨.same, rfl⟩
          · exact ⟨.and, rfl⟩
          · exact ⟨.or, rfl⟩
          · exact ⟨.over, rfl⟩
          · exact ⟨.rest, rfl⟩
          · exact ⟨.plus, rfl⟩
        have ka := (k1.new (o := .lst [.str "plus", .str "minus", .str "times", .str "less", .str "atmost", .str "same", .str "and", .str "or", .str "over", .str "rest", .str "plus"]) nl).trans k2
        refine ⟨l, _, j, _, rfl, rfl, SqL.of (k2.kp l _ (by simpa using nlS) upd_same), av, _, rfl, _, rfl, _, rfl, _, rfl, _, _, rfl, rfl, S, N, o, d - 1, ns, rfl, ls3, ka.frz _ _ _ eN, few, by omega, by omega, fun H3 u e k3 ls4 de dd al => ?_⟩
        refine ⟨_, rfl, _, rfl, _, rfl, _, _, rfl, rfl, S, N, o, d - 1, ns, rfl, ls4, (ka.trans k3).frz _ _ _ eN, few, by omega, by omega, fun H4 u2 e2 k4 ls5 de2 dd2 al2 => ⟨by show 3 ≤ sizeLine; decide, fun t nt => ?_⟩⟩
        exact q _ _ (.bin op e e2) (((ka.trans k3).trans k4).new nt) (ls5.new nt) (.tup upd_same (.cons (.str _) (.cons ((de.mono k4).new nt) (.cons (de2.new nt) .nil)))) (by show max e.dep e2.dep + 1 ≤ _; omega) ⟨al, al2⟩
end
end Rk
/-! the law: its statements. -/
namespace Rk
open PySem PySem.Spec PyProof.Rows L2
theorem bdD_map : ∀ b : List St, bdD b = b.map stD
  | [] => rfl
  | s :: r => by rw [List.map_cons, ← bdD_map r]; rfl
mutual
theorem St.ok_mono {D D' : Str → Prop} (h : ∀ x, D x → D' x) : ∀ {s : St}, s.ok D → s.ok D'
  | .set x e, q => ⟨h x q.1, q.2.mono h⟩
  | .iff e a b, q => ⟨q.1.mono h, bOk_mono h q.2.1, bOk_mono h q.2.2⟩
  | .rep e a, q => ⟨q.1.mono h, bOk_mono h q.2⟩
  | .send t m as, q => ⟨match t, q.1 with
    | .par, _ => trivial
    | .self, _ => trivial
    | .child e, z => eOk.mono h z, fun e m => (q.2.1 e m).mono h, q.2.2⟩
  | .spawn k as x, q => ⟨h x q.1, fun e m => (q.2.1 e m).mono h, q.2.2⟩
  | .call f as m, q => ⟨fun e m => (q.1 e m).mono h, q.2⟩
  | .stop, _ => trivial
  | .fail, _ => trivial
theorem bOk_mono {D D' : Str → Prop} (h : ∀ x, D x → D' x) : ∀ {b : List St}, bOk D b → bOk D' b
  | [], _ => trivial
  | _ :: _, q => ⟨St.ok_mono h q.1, bOk_mono h q.2⟩
end
mutual
def St.gk : St → Prop
  | .iff _ a b => bGk a ∧ bGk b
  | .rep _ a => bGk a
  | .spawn k as _ => (k = "shop" ∧ as = []) ∨ (k = "helper" ∧ as.length = 1)
  | _ => True
def bGk : List St → Prop
  | [] => True
  | s :: r => s.gk ∧ bGk r
end
/-- what the law makes for statements -/
structure GS (ns : List Str) (d : Nat) (s : St) : Prop where
  ok : s.ok (fun x => x ∈ ns ∨ x ∈ nsS s)
  dep : s.dep ≤ d
  few : (nsS s).length ≤ 6 ^ d
  gk : s.gk
structure GB (ns : List Str) (d : Nat) (b : List St) : Prop where
  ok : bOk (fun x => x ∈ ns ∨ x ∈ nsL b) b
  dep : bDep b ≤ d
  few : (nsL b).length ≤ b.length * 6 ^ d
  gk : bGk b
theorem GB.of {ns : List Str} {d : Nat} : ∀ {b : List St}, (∀ s ∈ b, GS ns d s) → GB ns d b
  | [], _ => ⟨trivial, Nat.zero_le _, Nat.zero_le _, trivial⟩
  | s :: r, h => by
    have a := h s List.mem_cons_self
    have c := GB.of (b := r) fun x m => h x (List.mem_cons_of_mem _ m)
    refine ⟨⟨St.ok_mono (fun x q => q.imp id fun m => List.mem_append_left _ m) a.ok, bOk_mono (fun x q => q.imp id fun m => List.mem_append_right _ m) c.ok⟩, ?_, ?_, a.gk, c.gk⟩
    · have := a.dep
      have := c.dep
      show max s.dep (bDep r) ≤ d
      omega
    · show (nsS s ++ nsL r).length ≤ _
      have := a.few
      have := c.few
      rw [List.length_append, List.length_cons, Nat.add_mul]
      omega
theorem pow6 {d : Nat} : 1 ≤ 6 ^ d := Nat.pow_pos (by decide)
theorem pow6s {d : Nat} (h : 0 < d) : 6 ^ d = 6 * 6 ^ (d - 1) := by
  obtain ⟨k, rfl⟩ : ∃ k, d = k + 1 := ⟨d - 1, by omega⟩
  rw [Nat.pow_succ, Nat.mul_comm]; rfl
theorem exs_ok {ns : List Str} {st : St} {es : List Ex} (h : ∀ e ∈ es, eOk (fun x => x ∈ ns) e) : ∀ e ∈ es, eOk (fun x => x ∈ ns ∨ x ∈ nsS st) e := fun e m => (h e m).mono fun _ => .inl
theorem GS.iff {ns : List Str} {d : Nat} {e : Ex} {b1 b2 : List St} (hd : 0 < d) (he : eOk (fun x => x ∈ ns) e) (g1 : GB ns (d - 1) b1) (l1 : b1.length ≤ 3) (g2 : GB ns (d - 1) b2) (l2 : b2.length ≤ 3) : GS ns d (.iff e b1 b2) := by
  refine ⟨⟨he.mono fun _ => .inl, bOk_mono (fun x q => q.imp id fun m => List.mem_append_left _ m) g1.ok, bOk_mono (fun x q => q.imp id fun m => List.mem_append_right _ m) g2.ok⟩, ?_, ?_, g1.gk, g2.gk⟩
  · have := g1.dep
    have := g2.dep
    show max (bDep b1) (bDep b2) + 1 ≤ d
    omega
  · show (nsL b1 ++ nsL b2).length ≤ _
    have a := g1.few
    have b := g2.few
    have a2 := Nat.mul_le_mul_right (6 ^ (d - 1)) l1
    have b2 := Nat.mul_le_mul_right (6 ^ (d - 1)) l2
    rw [List.length_append, pow6s hd]
    omega
theorem GS.rep {ns : List Str} {d : Nat} {e : Ex} {b : List St} (hd : 0 < d) (he : eOk (fun x => x ∈ ns) e) (g : GB ns 0 b) (l : b.length ≤ 3) : GS ns d (.rep e b) := by
  refine ⟨⟨he.mono fun _ => .inl, bOk_mono (fun x q => q.imp id fun m => m) g.ok⟩, ?_, ?_, g.gk⟩
  · have := g.dep
    show bDep b + 1 ≤ d
    omega
  · show (nsL b).length ≤ _
    have a := g.few
    have p : 1 ≤ 6 ^ (d - 1) := pow6
    rw [pow6s hd]
    simp only [Nat.pow_zero, Nat.mul_one] at a
    omega
theorem GS.send {ns : List Str} {d : Nat} {t : Tg} {m : Str} {es : List Ex} (ht : tOk (fun x => x ∈ ns) t) (h : ∀ e ∈ es, eOk (fun x => x ∈ ns) e) (l : es.length ≤ 10) : GS ns d (.send t m es) :=
  ⟨⟨match t, ht with
    | .par, _ => trivial
    | .self, _ => trivial
    | .child e, z => eOk.mono (fun _ => .inl) z, exs_ok h, l⟩, Nat.zero_le _, Nat.zero_le _, trivial⟩
theorem GS.spawn {ns : List Str} {d : Nat} {k x : Str} {es : List Ex} (h : ∀ e ∈ es, eOk (fun x => x ∈ ns) e) (l : es.length ≤ 10) (g : (k = "shop" ∧ es = []) ∨ (k = "helper" ∧ es.length = 1)) : GS ns d (.spawn k es x) :=
  ⟨⟨.inr (List.mem_singleton.mpr rfl), exs_ok h, l⟩, Nat.zero_le _, pow6, g⟩
theorem GS.call {ns : List Str} {d : Nat} {k : Str} {m : Option Str} {es : List Ex} (h : ∀ e ∈ es, eOk (fun x => x ∈ ns) e) (l : es.length ≤ 10) : GS ns d (.call k es m) :=
  ⟨⟨exs_ok h, l⟩, Nat.zero_le _, Nat.zero_le _, trivial⟩
theorem GS.set {ns : List Str} {d : Nat} {x : Str} {e : Ex} (h : eOk (fun x => x ∈ ns) e) : GS ns d (.set x e) :=
  ⟨⟨.inr (List.mem_singleton.mpr rfl), h.mono fun _ => .inl⟩, Nat.zero_le _, pow6, trivial⟩
theorem Dl.mem {H : Hp} : ∀ {ds : List PyData} {vs : List V} {v : V}, Dl H vs ds → v ∈ vs → ∃ d ∈ ds, Di H v d
  | [], _, _, h, m => by rw [h.inv_nil] at m; exact nomatch m
  | d :: ds, _, v, h, m => by
    obtain ⟨x, xs, rfl, q, t⟩ := h.inv_cons
    rcases List.mem_cons.mp m with rfl | m
    · exact ⟨d, List.mem_cons_self, q⟩
    · obtain ⟨d2, m2, q2⟩ := Dl.mem t m
      exact ⟨d2, List.mem_cons_of_mem _ m2, q2⟩
theorem row_pick {H : Hp} {xs : List V} {ds : List (Str × Nat)} {v : V} (h : Dl H xs (ds.map fun p => PyData.tuple [.str p.1, .int (p.2 : Int)])) (m : v ∈ xs) : ∃ p a c, v = .ref p ∧ H p = some (.tup [.str a, .int (c : Nat)]) ∧ (a, c) ∈ ds := by
  obtain ⟨d, md, dv⟩ := h.mem m
  obtain ⟨⟨a, c⟩, mp, rfl⟩ := List.mem_map.mp md
  obtain ⟨p, x, y, rfl, e, d1, d2⟩ := dv.inv2
  rw [d1.inv_str, d2.inv_int] at e
  exact ⟨p, a, c, rfl, e, mp⟩
section
variable {K : PySem.W.Frag} {mg : Str → Option Value} {P : Program} {w : World} {base : Heap}
def rowD (p : Str × Nat) : PyData := .tuple [.str p.1, .int (p.2 : Int)]
def msL : List (Str × Nat) := [("go", 1), ("add", 2), ("back", 1), ("none", 0)]
def ksL : List (Str × Nat) := [("shop", 0), ("helper", 1)]
def msD : PyData := .list (msL.map rowD)
def ksD : PyData := .list (ksL.map rowD)
def BxAt (H : Hp) (B : Addr) (ns : List Str) : Prop := ∃ ob N oN X oX vm vk, ∃ ss : List Str, H B = some (.frz ob (.dK [(.inr "names", .ref N), (.inr "sets", .ref X), (.inr "messages", vm), (.inr "kinds", vk)])) ∧
  H N = some (.frz oN (.lst (ns.map V.str))) ∧ H X = some (.frz oX (.lst (ss.map V.str))) ∧ 0 < ss.length ∧ ss.length ≤ 100 ∧ Di H vm msD ∧ Di H vk ksD
theorem BxAt.mono {L : List Addr} {H Ha : Hp} {B : Addr} {ns : List Str} (h : BxAt H B ns) (k : Kp L H Ha) : BxAt Ha B ns := let ⟨ob, N, oN, X, oX, vm, vk, ss, e1, e2, e3, s0, s1, d1, d2⟩ := h; ⟨ob, N, oN, X, oX, vm, vk, ss, k.frz _ _ _ e1, k.frz _ _ _ e2, k.frz _ _ _ e3, s0, s1, d1.mono k, d2.mono k⟩
def spSm (n : Nat) : Sp := fun vs H Q _ => ∃ S B d, ∃ ns : List Str, vs = [.ref S, .ref B, .int d] ∧ LsAt H S ∧ BxAt H B ns ∧ ns.length ≤ 100 ∧ 0 ≤ d ∧ d.toNat < n ∧
  ∀ Ha u s, Kp [S] H Ha → LsAt Ha S → Di Ha u (stD s) → GS ns d.toNat s → Q u Ha
def spBy (n : Nat) : Sp := fun vs H Q _ => ∃ S B d, ∃ ns : List Str, vs = [.ref S, .ref B, .int d] ∧ LsAt H S ∧ BxAt H B ns ∧ ns.length ≤ 100 ∧ 0 ≤ d ∧ d.toNat < n ∧
  ∀ Ha u b, Kp [S] H Ha → LsAt Ha S → Di Ha u (.list (bdD b)) → b.length ≤ 3 → GB ns d.toNat b → Q u Ha
theorem LsAt.wr {H : Hp} {S p : Addr} {o u : HO} (h : LsAt H S) (ne : p ≠ S) (e : H p = some u) (mu : Mut (some u) := by exact True.intro) : LsAt (upd H p o) S := h.mono (L := [p]) (Kp.refl.wr (by simp) e mu) (by simpa using Ne.symm ne)
theorem bd_of (T : Tx K mg) {n k : Nat} (hk : 1 ≤ k) (ih : FnOk P w K mg base (L2N.CX P w) k (He.ga K "_law_statement") T.fd_law_statement P_law_statement (spSm n)) : FnOk P w K mg base (L2N.CX P w) (k + 1) (He.ga K "_law_body") T.fd_law_body P_law_body (spBy n) := by
  refine T.D_law_body.ok sc_law_body (fun vs H Q E h => by obtain ⟨S, B, d, ns, rfl, _⟩ := h; rfl) fun cdv A outer s H vs Q E hr h => ⟨_, (pss_one (ps_ret (pe_fz (pe_lc (own := [("_law_turn", 3)]) rfl sc_law_body.nd (pi_range1 rfl T.f_range (pa_cons (pe_call (ok_law_draw T) (hr.mono (show 1 ≤ k by omega)) rfl T.g__law_draw T.p_law_draw T.b_law_draw .nil pass0 (pa_cons (pv 0) (pa_cons pe_int pa_nil))) pa_nil)) (blkOk_by (own := [("_law_turn", 3)]) (N := N_law_body) (sc := defScope s_law_body) (by decide +kernel)) (fun _ _ _ _ _ => (pg_name (i := 3) sc_law_body.nd rfl (.inl rfl))) (fun _ _ _ _ _ => pts_nil) (fun _ _ _ _ _ => (pe_call ih hr rfl T.g__law_statement T.p_law_statement T.b_law_statement .nil pass0 (pa_cons (pv 0) (pa_cons (pv 1) (pa_cons (pv 2) pa_nil))))))))), ?_⟩
  obtain ⟨S, B, d, ns, rfl, ls, bx, few, d0, dn, q⟩ := h
  refine ⟨_, rfl, S, 4, rfl, ls, by decide, by decide, fun H1 c k1 ls1 c0 c1 => ⟨c, rfl, by omega, by omega, fun D nD => lc_range (lo := 0) (n := c.toNat) (fun i Hc => ∃ xs b, Kp [S] H Hc ∧ LsAt Hc S ∧ Hc D = some (.lst xs) ∧ Dl Hc xs (bdD b) ∧ b.length = i ∧ ∀ s ∈ b, GS ns d.toNat s) ⟨[], [], k1.new nD, ls1.new nD, upd_same, .nil, rfl, fun _ m => nomatch m⟩ (fun i Hc il ⟨xs, b, kc, lsc, eD, dl, lb, gs⟩ => ?_) fun Hc ⟨xs, b, kc, lsc, eD, dl, lb, gs⟩ => ?_⟩⟩
  · refine ⟨rfl, iT (B := ∃ xs b, Kp [S] H Hc ∧ LsAt Hc S ∧ Hc D = some (.lst xs) ∧ Dl Hc xs (bdD b) ∧ b.length = i + 1 ∧ ∀ s ∈ b, GS ns d.toNat s) rfl ⟨_, rfl, _, rfl, _, rfl, S, B, d, ns, rfl, lsc, bx.mono kc, few, d0, dn, fun H2 u st k2 ls2 du gu => ?_⟩⟩
    have hDS : D ≠ S := ls1.ne nD
    have eD2 := k2.kp D _ (by simpa using hDS) eD
    have lx : xs.length = i := by rw [dl.length, bdD_length, lb]
    have kw : Kp [D] H2 (upd H2 D (.lst (xs ++ [u]))) := Kp.refl.wr (by simp) eD2
    refine ⟨xs, eD2, by rw [lx]; exact small' (by omega), xs ++ [u], b ++ [st], (kc.trans k2).own (k1.dom _ nD), ls2.wr hDS eD2, upd_same, ?_, by rw [List.length_append, lb]; rfl, fun s m => ?_⟩
    · rw [bdD_map, List.map_append, ← bdD_map]
      exact Dl.append ((dl.mono k2).mono kw) (.cons (du.mono kw) .nil)
    · rcases List.mem_append.mp m with m | m
      · exact gs s m
      · rw [List.mem_singleton.mp m]; exact gu
  · have hDS : D ≠ S := ls1.ne nD
    refine ⟨D, _, eD, True.intro, fun od => q _ _ b (kc.own (k1.dom _ nD)) (lsc.wr hDS eD) (.lst upd_same ?_) (by omega) (GB.of gs)⟩
    exact dl.mono (Kp.refl.wr (L := [D]) (by simp) eD)
theorem st_of (T : Tx K mg) {n k : Nat} (hk : 6 ≤ k) (ih : FnOk P w K mg base (L2N.CX P w) k (He.ga K "_law_body") T.fd_law_body P_law_body (spBy n)) : FnOk P w K mg base (L2N.CX P w) (k + 1) (He.ga K "_law_statement") T.fd_law_statement P_law_statement (spSm (n + 1)) := by
  refine T.D_law_statement.ok sc_law_statement (fun vs H Q E h => by obtain ⟨S, B, d, ns, rfl, _⟩ := h; rfl) fun cdv A outer s H vs Q E hr h => ⟨_, (pss_cons (ps_set (i := 3) sc_law_statement.nd rfl (.inl rfl) (pe_call (ok_law_draw T) (hr.mono (show 1 ≤ k by omega)) rfl T.g__law_draw T.p_law_draw T.b_law_draw .nil pass0 (pa_cons (pv 0) (pa_cons pe_int pa_nil))))
    (pss_cons (ps_set (i := 4) sc_law_statement.nd rfl (.inr rfl) (pe_dget (hu_of hr) (pv 1) pe_str (fun _ _ => rfl)))
    (pss_cons (ps_if (pt_cmpR op_lt (pv 3) pe_int (nomark _))
    (pss_cons (ps_set (i := 5) sc_law_statement.nd rfl (.inl rfl) (pe_ix ix_list (pe_dget (hu_of hr) (pv 1) pe_str (fun _ _ => rfl)) (pe_call (ok_law_draw T) (hr.mono (show 1 ≤ k by omega)) rfl T.g__law_draw T.p_law_draw T.b_law_draw .nil pass0 (pa_cons (pv 0) (pa_cons (pe_callB call_len_seq (by rfl) T.f_len (by decide +kernel) (pa_cons (pe_dget (hu_of hr) (pv 1) pe_str (fun _ _ => rfl)) pa_nil)) pa_nil))) (fun _ _ => rfl)))
    (pss_cons (ps_set (i := 6) sc_law_statement.nd rfl (.inl rfl) (pe_call (ok_law_exp T 3) (hr.mono (show 5 ≤ k by omega)) rfl T.g__law_exp T.p_law_exp T.b_law_exp .nil pass0 (pa_cons (pv 0) (pa_cons (pv 4) (pa_cons pe_int pa_nil)))))
    (pss_one (ps_ret (pe_tup (pa_cons pe_str (pa_cons (pv 5) (pa_cons (pv 6) pa_nil))))))))
    pss_nil)
    (pss_cons (ps_if (PW.pt (pw_and (pt_cmpR op_lt (pv 3) pe_int (nomark _)) (pw_and1 (pt_cmpR op_gt (pv 2) pe_int (nomark _)))))
    (pss_cons (ps_set (i := 7) sc_law_statement.nd rfl (.inl rfl) (pe_call ih hr rfl T.g__law_body T.p_law_body T.b_law_body .nil pass0 (pa_cons (pv 0) (pa_cons (pv 1) (pa_cons (pe_op op_sub (pv 2) pe_int) pa_nil)))))
    (pss_one (ps_ret (pe_tup (pa_cons pe_str (pa_cons (pe_call (ok_law_exp T 3) (hr.mono (show 5 ≤ k by omega)) rfl T.g__law_exp T.p_law_exp T.b_law_exp .nil pass0 (pa_cons (pv 0) (pa_cons (pv 4) (pa_cons pe_int pa_nil)))) (pa_cons (pv 7) (pa_cons (pe_call ih hr rfl T.g__law_body T.p_law_body T.b_law_body .nil pass0 (pa_cons (pv 0) (pa_cons (pv 1) (pa_cons (pe_op op_sub (pv 2) pe_int) pa_nil)))) pa_nil))))))))
    pss_nil)
    (pss_cons (ps_if (PW.pt (pw_and (pt_cmpR op_eq (pv 3) pe_int (nomark _)) (pw_and1 (pt_cmpR op_gt (pv 2) pe_int (nomark _)))))
    (pss_one (ps_ret (pe_tup (pa_cons pe_str (pa_cons (pe_tup (pa_cons pe_str (pa_cons (pe_call (ok_law_draw T) (hr.mono (show 1 ≤ k by omega)) rfl T.g__law_draw T.p_law_draw T.b_law_draw .nil pass0 (pa_cons (pv 0) (pa_cons pe_int pa_nil))) pa_nil))) (pa_cons (pe_call ih hr rfl T.g__law_body T.p_law_body T.b_law_body .nil pass0 (pa_cons (pv 0) (pa_cons (pv 1) (pa_cons pe_int pa_nil)))) pa_nil))))))
    pss_nil)
    (pss_cons (ps_if (pt_cmpR op_lt (pv 3) pe_int (nomark _))
    (pss_cons (ps_set (i := 8) sc_law_statement.nd rfl (.inl rfl) (pe_ix ix_list (pe_lst (pa_cons (pe_tup (pa_cons pe_str pa_nil)) (pa_cons (pe_tup (pa_cons pe_str pa_nil)) (pa_cons (pe_tup (pa_cons pe_str (pa_cons (pe_call (ok_law_exp T 3) (hr.mono (show 5 ≤ k by omega)) rfl T.g__law_exp T.p_law_exp T.b_law_exp .nil pass0 (pa_cons (pv 0) (pa_cons (pv 4) (pa_cons pe_int pa_nil)))) pa_nil))) (pa_cons (pe_tup (pa_cons pe_str (pa_cons (pe_tup (pa_cons pe_str (pa_cons pe_int pa_nil))) pa_nil))) pa_nil))))) (pe_call (ok_law_draw T) (hr.mono (show 1 ≤ k by omega)) rfl T.g__law_draw T.p_law_draw T.b_law_draw .nil pass0 (pa_cons (pv 0) (pa_cons pe_int pa_nil))) (fun _ _ => rfl)))
    (pss_cons (ps_asg (pe_ix ix_list (pe_dget (hu_of hr) (pv 1) pe_str (fun _ _ => rfl)) (pe_call (ok_law_draw T) (hr.mono (show 1 ≤ k by omega)) rfl T.g__law_draw T.p_law_draw T.b_law_draw .nil pass0 (pa_cons (pv 0) (pa_cons (pe_callB call_len_seq (by rfl) T.f_len (by decide +kernel) (pa_cons (pe_dget (hu_of hr) (pv 1) pe_str (fun _ _ => rfl)) pa_nil)) pa_nil))) (fun _ _ => rfl)) (pg_tup rfl (pgs_cons (pg_name (i := 9) sc_law_statement.nd rfl (.inl rfl)) (pgs_cons (pg_name (i := 10) sc_law_statement.nd rfl (.inl rfl)) pgs_nil))))
    (pss_one (ps_ret (pe_tup (pa_cons pe_str (pa_cons (pv 8) (pa_cons (pv 9) (pa_cons (pe_fz (pe_lc (own := [("_law_turn", 12)]) rfl sc_law_statement.nd (pi_range1 rfl T.f_range (pa_cons (pv 10) pa_nil)) (blkOk_by (own := [("_law_turn", 12)]) (N := N_law_statement) (sc := defScope s_law_statement) (by decide +kernel)) (fun _ _ _ _ _ => (pg_name (i := 12) sc_law_statement.nd rfl (.inl rfl))) (fun _ _ _ _ _ => pts_nil) (fun _ _ _ _ _ => (pe_call (ok_law_exp T 3) (hr.mono (show 5 ≤ k by omega)) rfl T.g__law_exp T.p_law_exp T.b_law_exp .nil pass0 (pa_cons (pv 0) (pa_cons (pv 4) (pa_cons pe_int pa_nil))))))) pa_nil)))))))))
    pss_nil)
    (pss_cons (ps_if (pt_cmpR op_lt (pv 3) pe_int (nomark _))
    (pss_cons (ps_asg (pe_ix ix_list (pe_dget (hu_of hr) (pv 1) pe_str (fun _ _ => rfl)) (pe_call (ok_law_draw T) (hr.mono (show 1 ≤ k by omega)) rfl T.g__law_draw T.p_law_draw T.b_law_draw .nil pass0 (pa_cons (pv 0) (pa_cons (pe_callB call_len_seq (by rfl) T.f_len (by decide +kernel) (pa_cons (pe_dget (hu_of hr) (pv 1) pe_str (fun _ _ => rfl)) pa_nil)) pa_nil))) (fun _ _ => rfl)) (pg_tup rfl (pgs_cons (pg_name (i := 11) sc_law_statement.nd rfl (.inl rfl)) (pgs_cons (pg_name (i := 10) sc_law_statement.nd rfl (.inl rfl)) pgs_nil))))
    (pss_one (ps_ret (pe_tup (pa_cons pe_str (pa_cons (pv 11) (pa_cons (pe_fz (pe_lc (own := [("_law_turn", 12)]) rfl sc_law_statement.nd (pi_range1 rfl T.f_range (pa_cons (pv 10) pa_nil)) (blkOk_by (own := [("_law_turn", 12)]) (N := N_law_statement) (sc := defScope s_law_statement) (by decide +kernel)) (fun _ _ _ _ _ => (pg_name (i := 12) sc_law_statement.nd rfl (.inl rfl))) (fun _ _ _ _ _ => pts_nil) (fun _ _ _ _ _ => (pe_call (ok_law_exp T 3) (hr.mono (show 5 ≤ k by omega)) rfl T.g__law_exp T.p_law_exp T.b_law_exp .nil pass0 (pa_cons (pv 0) (pa_cons (pv 4) (pa_cons pe_int pa_nil))))))) (pa_cons pe_str pa_nil))))))))
    pss_nil)
    (pss_cons (ps_if (pt_cmpR op_lt (pv 3) pe_int (nomark _))
    (pss_cons (ps_set (i := 9) sc_law_statement.nd rfl (.inl rfl) (pe_ix ix_list (pe_lst (pa_cons pe_non (pa_cons pe_str (pa_cons pe_str pa_nil)))) (pe_call (ok_law_draw T) (hr.mono (show 1 ≤ k by omega)) rfl T.g__law_draw T.p_law_draw T.b_law_draw .nil pass0 (pa_cons (pv 0) (pa_cons pe_int pa_nil))) (fun _ _ => rfl)))
    (pss_one (ps_ret (pe_tup (pa_cons pe_str (pa_cons pe_str (pa_cons (pe_fz (pe_lst (pa_cons (pe_call (ok_law_exp T 3) (hr.mono (show 5 ≤ k by omega)) rfl T.g__law_exp T.p_law_exp T.b_law_exp .nil pass0 (pa_cons (pv 0) (pa_cons (pv 4) (pa_cons pe_int pa_nil)))) pa_nil))) (pa_cons (pv 9) pa_nil))))))))
    pss_nil)
    (pss_one (ps_ret (pe_ix ix_list (pe_lst (pa_cons (pe_tup (pa_cons pe_str pa_nil)) (pa_cons (pe_tup (pa_cons pe_str pa_nil)) (pa_cons (pe_tup (pa_cons pe_str (pa_cons pe_str (pa_cons (pe_tup (pa_cons pe_str (pa_cons pe_int pa_nil))) pa_nil)))) pa_nil)))) (pe_call (ok_law_draw T) (hr.mono (show 1 ≤ k by omega)) rfl T.g__law_draw T.p_law_draw T.b_law_draw .nil pass0 (pa_cons (pv 0) (pa_cons pe_int pa_nil))) (fun _ _ => rfl)))))))))))), ?_⟩
  obtain ⟨S, B, d, ns, rfl, ls, bx, few, d0, dn, q⟩ := h
  refine ⟨_, rfl, S, 20, rfl, ls, by decide, by decide, fun H1 p k1 ls1 _ _ => ?_⟩
  have bx1 := bx.mono k1
  obtain ⟨ob, N, oN, X, oX, vm, vk, ss, eB, eN, eX, s0, s1, dm, dk⟩ := id bx1
  obtain ⟨mA, oM, xm, rfl, eM, dlm⟩ := dm.inv_lst
  obtain ⟨kA, oK, xk, rfl, eK, dlk⟩ := dk.inv_lst
  have lm : xm.length = 4 := dlm.length
  have lk : xk.length = 2 := dlk.length
  have gN : DGet H1 B (.str "names") (some (.ref N)) := .inl ⟨_, .inr "names", .inr ⟨ob, eB⟩, rfl, rfl⟩
  have gX : DGet H1 B (.str "sets") (some (.ref X)) := .inl ⟨_, .inr "sets", .inr ⟨ob, eB⟩, rfl, rfl⟩
  have gM : ∀ {L : List Addr} {Hx : Hp}, Kp L H1 Hx → DGet Hx B (.str "messages") (some (.ref mA)) := fun k => .inl ⟨_, .inr "messages", .inr ⟨ob, k.frz _ _ _ eB⟩, rfl, rfl⟩
  have gK : DGet H1 B (.str "kinds") (some (.ref kA)) := .inl ⟨_, .inr "kinds", .inr ⟨ob, eB⟩, rfl, rfl⟩
  refine ⟨_, rfl, B, _, rfl, gN, _, rfl, _, _, rfl, rfl, _, rfl, iE (fun _ => ?_) fun _ => ?_⟩
  · have posX : (0 : Int) < (ss.map V.str).length := by rw [List.length_map]; omega
    refine ⟨_, rfl, B, _, rfl, gX, _, rfl, _, rfl, B, _, rfl, gX, X, _, rfl, .inl (.inl (.inr ⟨oX, eX⟩)), S, _, rfl, ls1, posX, by rw [List.length_map]; omega, fun H2 j k2 ls2 j0 j1 => ?_⟩
    obtain ⟨v, av, mv⟩ := pick j0 j1
    obtain ⟨x, mx, rfl⟩ := List.mem_map.mp mv
    refine ⟨X, _, j, _, rfl, rfl, .inl (.inr ⟨oX, k2.frz _ _ _ eX⟩), av, _, rfl, _, rfl, S, N, oN, 2, ns, rfl, ls2, k2.frz _ _ _ eN, few, by decide, by decide, fun H3 u e k3 ls3 de dd al => ?_⟩
    exact ⟨_, rfl, _, rfl, by show 3 ≤ sizeLine; decide, fun t nt => q _ _ (.set x e) (((k1.trans k2).trans k3).new nt) (ls3.new nt) (.tup upd_same (.cons (.str _) (.cons (.str _) (.cons (de.new nt) .nil)))) (GS.set ⟨al, by have : e.dep ≤ 2 := dd; omega⟩)⟩
  refine ⟨_, rfl, _, _, rfl, rfl, _, rfl, iAn ?_ fun _ hB => ⟨_, rfl, _, _, rfl, rfl, _, rfl, iAn hB fun c _ => ?_⟩⟩
  rotate_left
  · have dpos : 0 < d := of_decide_eq_true c
    have dz : (d - 1).toNat = d.toNat - 1 := by omega
    refine ⟨_, rfl, _, rfl, _, rfl, _, _, rfl, rfl, S, B, d - 1, ns, rfl, ls1, bx1, few, by omega, by omega, fun H2 u1 b1 k2 ls2 d1 l1 g1 => ?_⟩
    refine ⟨_, rfl, _, rfl, S, N, oN, 1, ns, rfl, ls2, k2.frz _ _ _ eN, few, by decide, by decide, fun H3 u e k3 ls3 de dd al => ?_⟩
    refine ⟨_, rfl, _, rfl, _, rfl, _, rfl, _, _, rfl, rfl, S, B, d - 1, ns, rfl, ls3, bx1.mono (k2.trans k3), few, by omega, by omega, fun H4 u2 b2 k4 ls4 d2 l2 g2 => ⟨by show 4 ≤ sizeLine; decide, fun t nt => ?_⟩⟩
    rw [dz] at g1 g2
    exact q _ _ (.iff e b1 b2) ((((k1.trans k2).trans k3).trans k4).new nt) (ls4.new nt) (.tup upd_same (.cons (.str _) (.cons ((de.mono k4).new nt) (.cons ((d1.mono (k3.trans k4)).new nt) (.cons (d2.new nt) .nil))))) (GS.iff (by omega) ⟨al, by have : e.dep ≤ 1 := dd; omega⟩ g1 l1 g2 l2)
  refine ⟨_, rfl, rfl, _, rfl, iAn ?_ fun _ hB => ⟨_, rfl, _, _, rfl, rfl, _, rfl, iAn hB fun c _ => ?_⟩⟩
  rotate_left
  · have dpos : 0 < d := of_decide_eq_true c
    refine ⟨_, rfl, S, 4, rfl, ls1, by decide, by decide, fun H2 j k2 ls2 j0 j1 => ⟨by show 2 ≤ sizeLine; decide, fun t1 nt1 => ?_⟩⟩
    refine ⟨_, rfl, _, rfl, S, B, 0, ns, rfl, ls2.new nt1, (bx1.mono k2).mono (Kp.refl (L := []).new nt1), few, by decide, by show 0 < n; omega, fun H3 u b k3 ls3 db lb gb => ⟨by show 3 ≤ sizeLine; decide, fun t nt => ?_⟩⟩
    have dn : Di H3 (.ref t1) (exD (.num j)) := .tup (k3.tup _ _ upd_same) (.cons (.str _) (.cons (.int _) .nil))
    exact q _ _ (.rep (.num j) b) ((((k1.trans k2).new nt1).trans k3).new nt) (ls3.new nt) (.tup upd_same (.cons (.str _) (.cons (dn.new nt) (.cons (db.new nt) .nil)))) (GS.rep (by omega) ⟨trivial, Nat.zero_lt_succ 2⟩ gb lb)
  refine ⟨_, rfl, _, _, rfl, rfl, _, rfl, iE (fun _ => ?_) fun _ => ?_⟩
  · refine ⟨by show 1 ≤ sizeLine; decide, fun t1 n1 => ⟨by show 1 ≤ sizeLine; decide, fun t2 n2 => ?_⟩⟩
    have kb := (Kp.refl (L := [S]) (H := H1)).new (o := .tup [.str "parent"]) n1 |>.new (o := .tup [.str "self"]) n2
    refine ⟨_, rfl, _, rfl, S, N, oN, 1, ns, rfl, (ls1.new n1).new n2, kb.frz _ _ _ eN, few, by decide, by decide, fun H2 u e k2 ls2 de dd al => ⟨by show 2 ≤ sizeLine; decide, fun t3 n3 => ⟨by show 2 ≤ sizeLine; decide, fun t4 n4 => ⟨by show 2 ≤ sizeLine; decide, fun t5 n5 => ⟨by show 4 ≤ sizeLine; decide, fun l nl => ?_⟩⟩⟩⟩⟩
    have f1 : Di (upd H1 t1 (.tup [.str "parent"])) (.ref t1) (tgD .par) := .tup upd_same (.cons (.str _) .nil)
    have f2 : Di (upd (upd H1 t1 (.tup [.str "parent"])) t2 (.tup [.str "self"])) (.ref t2) (tgD .self) := .tup upd_same (.cons (.str _) .nil)
    have f3 : Di (upd H2 t3 (.tup [.str "child", u])) (.ref t3) (tgD (.child e)) := .tup upd_same (.cons (.str _) (.cons (de.new n3) .nil))
    have f4 : Di (upd (upd H2 t3 (.tup [.str "child", u])) t4 (.tup [.str "number", .int 0])) (.ref t4) (exD (.num 0)) := .tup upd_same (.cons (.str _) (.cons (.int _) .nil))
    have f5 : Di (upd (upd (upd H2 t3 (.tup [.str "child", u])) t4 (.tup [.str "number", .int 0])) t5 (.tup [.str "child", .ref t4])) (.ref t5) (tgD (.child (.num 0))) := .tup upd_same (.cons (.str _) (.cons (f4.new n5) .nil))
    have f1' := ((((((f1.new n2).mono k2).new (o := .tup [.str "child", u]) n3).new (o := .tup [.str "number", .int 0]) n4).new (o := .tup [.str "child", .ref t4]) n5).new (o := .lst [.ref t1, .ref t2, .ref t3, .ref t5]) nl)
    have f2' := (((((f2.mono k2).new (o := .tup [.str "child", u]) n3).new (o := .tup [.str "number", .int 0]) n4).new (o := .tup [.str "child", .ref t4]) n5).new (o := .lst [.ref t1, .ref t2, .ref t3, .ref t5]) nl)
    have f3' := (((f3.new (o := .tup [.str "number", .int 0]) n4).new (o := .tup [.str "child", .ref t4]) n5).new (o := .lst [.ref t1, .ref t2, .ref t3, .ref t5]) nl)
    have f5' := f5.new (o := .lst [.ref t1, .ref t2, .ref t3, .ref t5]) nl
    have ls3 := ((((ls2.new (o := .tup [.str "child", u]) n3).new (o := .tup [.str "number", .int 0]) n4).new (o := .tup [.str "child", .ref t4]) n5).new (o := .lst [.ref t1, .ref t2, .ref t3, .ref t5]) nl)
    have nlS := ((((ls2.new (o := .tup [.str "child", u]) n3).new (o := .tup [.str "number", .int 0]) n4).new (o := .tup [.str "child", .ref t4]) n5)).ne nl
    have kc := ((((kb.trans k2).new (o := .tup [.str "child", u]) n3).new (o := .tup [.str "number", .int 0]) n4).new (o := .tup [.str "child", .ref t4]) n5).new (o := .lst [.ref t1, .ref t2, .ref t3, .ref t5]) nl
    refine ⟨_, rfl, S, 4, rfl, ls3, by decide, by decide, fun H4 j k4 ls4 j0 j1 => ?_⟩
    obtain ⟨v, av, mv⟩ := pick (xs := [.ref t1, .ref t2, .ref t3, .ref t5]) j0 j1
    obtain ⟨tg, dtg, htg⟩ : ∃ tg, Di H4 v (tgD tg) ∧ tOk (fun x => x ∈ ns) tg := by
      simp only [List.mem_cons, List.not_mem_nil, or_false] at mv
      rcases mv with rfl | rfl | rfl | rfl
      · exact ⟨_, f1'.mono k4, trivial⟩
      · exact ⟨_, f2'.mono k4, trivial⟩
      · exact ⟨_, f3'.mono k4, al, by have : e.dep ≤ 1 := dd; omega⟩
      · exact ⟨_, f5'.mono k4, trivial, by decide⟩
    have kd := kc.trans k4
    refine ⟨l, _, j, _, rfl, rfl, SqL.of (k4.kp l _ (by simpa using nlS) upd_same), av, ?_⟩
    refine ⟨_, rfl, B, _, rfl, gM kd, _, rfl, _, rfl, B, _, rfl, gM kd, mA, _, rfl, .inl (.inl (.inr ⟨oM, kd.frz _ _ _ eM⟩)), S, _, rfl, ls4, by omega, by omega, fun H5 j2 k5' ls5 j20 j21 => ?_⟩
    obtain ⟨w, aw, mw⟩ := pick j20 j21
    have k5 : Kp [S] H H5 := (k1.trans kd).trans k5'
    obtain ⟨pp, msg, c, rfl, epp, hc⟩ := row_pick (ds := msL) (dlm.mono (kd.trans k5')) mw
    have hc2 : c ≤ 2 := by
      simp only [msL, List.mem_cons, List.not_mem_nil, or_false, Prod.mk.injEq] at hc
      omega
    have eN5 : H5 N = some (.frz oN (.lst (ns.map V.str))) := (kd.trans k5').frz _ _ _ eN
    have dtg := dtg.mono k5'
    refine ⟨mA, _, j2, _, rfl, rfl, .inl (.inr ⟨oM, (kd.trans k5').frz _ _ _ eM⟩), aw, pp, _, rfl, SqT.of epp, rfl, _, _, rfl, _, _, rfl, rfl, ?_⟩
    refine ⟨_, rfl, _, rfl, _, rfl, _, rfl, by omega, by omega, fun D nD => lc_range (lo := 0) (n := c) (fun i Hc => ∃ xs, ∃ es : List Ex, Kp [S] H5 Hc ∧ LsAt Hc S ∧ Hc D = some (.lst xs) ∧ Dl Hc xs (es.map exD) ∧ es.length = i ∧ ∀ e ∈ es, eOk (fun x => x ∈ ns) e) ⟨[], [], Kp.refl.new nD, ls5.new nD, upd_same, .nil, rfl, fun _ m => nomatch m⟩ (fun i Hc il ⟨xs, es, kc, lsc, eD, dl, lb, gs⟩ => ?_) fun Hc ⟨xs, es, kc, lsc, eD, dl, lb, gs⟩ => ?_⟩
    · refine ⟨rfl, iT (B := ∃ xs, ∃ es : List Ex, Kp [S] H5 Hc ∧ LsAt Hc S ∧ Hc D = some (.lst xs) ∧ Dl Hc xs (es.map exD) ∧ es.length = i + 1 ∧ ∀ e ∈ es, eOk (fun x => x ∈ ns) e) rfl ⟨_, rfl, _, rfl, S, N, oN, 1, ns, rfl, lsc, kc.frz _ _ _ eN5, few, by decide, by decide, fun Hz u e kz lsz de dd al => ?_⟩⟩
      have hDS : D ≠ S := ls5.ne nD
      have eD2 := kz.kp D _ (by simpa using hDS) eD
      have lx : xs.length = i := by rw [dl.length, List.length_map, lb]
      have kw : Kp [D] Hz (upd Hz D (.lst (xs ++ [u]))) := Kp.refl.wr (by simp) eD2
      refine ⟨xs, eD2, by rw [lx]; exact small' (by omega), xs ++ [u], es ++ [e], (kc.trans kz).own nD, lsz.wr hDS eD2, upd_same, ?_, by rw [List.length_append, lb]; rfl, fun x m => ?_⟩
      · rw [List.map_append]; exact Dl.append ((dl.mono kz).mono kw) (.cons (de.mono kw) .nil)
      · rcases List.mem_append.mp m with m | m
        · exact gs x m
        · rw [List.mem_singleton.mp m]; exact ⟨al, by have : e.dep ≤ 1 := dd; omega⟩
    · have hDS : D ≠ S := ls5.ne nD
      refine ⟨D, _, eD, True.intro, fun od => ?_⟩
      have kD : Kp [S] H5 (upd Hc D (.frz od (.lst xs))) := kc.own nD
      have lsD : LsAt (upd Hc D (.frz od (.lst xs))) S := lsc.wr hDS eD
      have dD : Di (upd Hc D (.frz od (.lst xs))) (.ref D) (.list (es.map exD)) := .lst upd_same (dl.mono (Kp.refl.wr (L := [D]) (by simp) eD))
      exact ⟨by show 4 ≤ sizeLine; decide, fun t nt => q _ _ (.send tg msg es) ((k5.trans kD).new nt) (lsD.new nt) (.tup upd_same (.cons (.str _) (.cons ((dtg.mono kD).new nt) (.cons (.str _) (.cons (dD.new nt) .nil))))) (GS.send htg gs (by omega))⟩
  refine ⟨_, rfl, _, _, rfl, rfl, _, rfl, iE (fun _ => ?_) fun _ => ?_⟩
  · refine ⟨_, rfl, B, _, rfl, gK, _, rfl, _, rfl, B, _, rfl, gK, kA, _, rfl, .inl (.inl (.inr ⟨oK, eK⟩)), S, _, rfl, ls1, by omega, by omega, fun H2 j2 k2 ls2 j20 j21 => ?_⟩
    obtain ⟨w, aw, mw⟩ := pick j20 j21
    obtain ⟨pp, msg, c, rfl, epp, hc⟩ := row_pick (ds := ksL) (dlk.mono k2) mw
    have hc : (msg = "shop" ∧ c = 0) ∨ (msg = "helper" ∧ c = 1) := by
      simpa only [ksL, List.mem_cons, List.not_mem_nil, or_false, Prod.mk.injEq] using hc
    have hc2 : c ≤ 2 := by omega
    have eN2 : H2 N = some (.frz oN (.lst (ns.map V.str))) := k2.frz _ _ _ eN
    refine ⟨kA, _, j2, _, rfl, rfl, .inl (.inr ⟨oK, k2.frz _ _ _ eK⟩), aw, pp, _, rfl, SqT.of epp, rfl, _, _, rfl, _, _, rfl, rfl, ?_⟩
    refine ⟨_, rfl, _, rfl, _, rfl, by omega, by omega, fun D nD => lc_range (lo := 0) (n := c) (fun i Hc => ∃ xs, ∃ es : List Ex, Kp [S] H2 Hc ∧ LsAt Hc S ∧ Hc D = some (.lst xs) ∧ Dl Hc xs (es.map exD) ∧ es.length = i ∧ ∀ e ∈ es, eOk (fun x => x ∈ ns) e) ⟨[], [], Kp.refl.new nD, ls2.new nD, upd_same, .nil, rfl, fun _ m => nomatch m⟩ (fun i Hc il ⟨xs, es, kc, lsc, eD, dl, lb, gs⟩ => ?_) fun Hc ⟨xs, es, kc, lsc, eD, dl, lb, gs⟩ => ?_⟩
    · refine ⟨rfl, iT (B := ∃ xs, ∃ es : List Ex, Kp [S] H2 Hc ∧ LsAt Hc S ∧ Hc D = some (.lst xs) ∧ Dl Hc xs (es.map exD) ∧ es.length = i + 1 ∧ ∀ e ∈ es, eOk (fun x => x ∈ ns) e) rfl ⟨_, rfl, _, rfl, S, N, oN, 1, ns, rfl, lsc, kc.frz _ _ _ eN2, few, by decide, by decide, fun Hz u e kz lsz de dd al => ?_⟩⟩
      have hDS : D ≠ S := ls2.ne nD
      have eD2 := kz.kp D _ (by simpa using hDS) eD
      have lx : xs.length = i := by rw [dl.length, List.length_map, lb]
      have kw : Kp [D] Hz (upd Hz D (.lst (xs ++ [u]))) := Kp.refl.wr (by simp) eD2
      refine ⟨xs, eD2, by rw [lx]; exact small' (by omega), xs ++ [u], es ++ [e], (kc.trans kz).own nD, lsz.wr hDS eD2, upd_same, ?_, by rw [List.length_append, lb]; rfl, fun x m => ?_⟩
      · rw [List.map_append]; exact Dl.append ((dl.mono kz).mono kw) (.cons (de.mono kw) .nil)
      · rcases List.mem_append.mp m with m | m
        · exact gs x m
        · rw [List.mem_singleton.mp m]; exact ⟨al, by have : e.dep ≤ 1 := dd; omega⟩
    · have hDS : D ≠ S := ls2.ne nD
      refine ⟨D, _, eD, True.intro, fun od => ?_⟩
      have kD : Kp [S] H2 (upd Hc D (.frz od (.lst xs))) := kc.own nD
      have lsD : LsAt (upd Hc D (.frz od (.lst xs))) S := lsc.wr hDS eD
      have dD : Di (upd Hc D (.frz od (.lst xs))) (.ref D) (.list (es.map exD)) := .lst upd_same (dl.mono (Kp.refl.wr (L := [D]) (by simp) eD))
      exact ⟨by show 4 ≤ sizeLine; decide, fun t nt => q _ _ (.spawn msg es "c") (((k1.trans k2).trans kD).new nt) (lsD.new nt) (.tup upd_same (.cons (.str _) (.cons (.str _) (.cons (dD.new nt) (.cons (.str _) .nil))))) (GS.spawn gs (by omega) (by rcases hc with ⟨a, b⟩ | ⟨a, b⟩; exact .inl ⟨a, List.eq_nil_of_length_eq_zero (lb.trans b)⟩; exact .inr ⟨a, lb.trans b⟩))⟩
  refine ⟨_, rfl, _, _, rfl, rfl, _, rfl, iE (fun _ => ?_) fun _ => ?_⟩
  · refine ⟨by show 3 ≤ sizeLine; decide, fun l nl => ?_⟩
    have ls2 := ls1.new (o := .lst [.non, .str "back", .str "go"]) nl
    have nlS := ls1.ne nl
    have kb := (Kp.refl (L := [S]) (H := H1)).new (o := .lst [.non, .str "back", .str "go"]) nl
    refine ⟨_, rfl, S, 3, rfl, ls2, by decide, by decide, fun H2 j k2 ls3 j0 j1 => ?_⟩
    obtain ⟨v, av, mv⟩ := pick (xs := [.non, .str "back", .str "go"]) j0 j1
    obtain ⟨m, dm⟩ : ∃ m, ∀ Hx, Di Hx v (oS m) := by
      simp only [List.mem_cons, List.not_mem_nil, or_false] at mv
      rcases mv with rfl | rfl | rfl
      · exact ⟨none, fun _ => .non⟩
      · exact ⟨some "back", fun _ => .str _⟩
      · exact ⟨some "go", fun _ => .str _⟩
    refine ⟨l, _, j, _, rfl, rfl, SqL.of (k2.kp l _ (by simpa using nlS) upd_same), av, _, rfl, _, rfl, S, N, oN, 1, ns, rfl, ls3, (kb.trans k2).frz _ _ _ eN, few, by decide, by decide, fun H3 u e k3 ls4 de dd al => ⟨by show 1 ≤ sizeLine; decide, fun l2 nl2 => ⟨l2, _, upd_same, True.intro, fun od => ⟨_, rfl, by show 4 ≤ sizeLine; decide, fun t nt => ?_⟩⟩⟩⟩
    have nlS2 := ls4.ne nl2
    have k4 : Kp [] H3 (upd (upd H3 l2 (.lst [u])) l2 (.frz od (.lst [u]))) := (Kp.refl.new nl2).own nl2
    have dl : Di (upd (upd H3 l2 (.lst [u])) l2 (.frz od (.lst [u]))) (.ref l2) (.list ([e].map exD)) := .lst upd_same (.cons (de.mono k4) .nil)
    exact q _ _ (.call "pay" [e] m) (((((k1.trans kb).trans k2).trans k3).then0 k4).new nt) ((ls4.keep k4).new nt) (.tup upd_same (.cons (.str _) (.cons (.str _) (.cons (dl.new nt) (.cons (dm _) .nil))))) (GS.call (fun x mx => by rw [List.mem_singleton.mp mx]; exact ⟨al, by have : e.dep ≤ 1 := dd; omega⟩) (by show 1 ≤ 10; decide))
  · refine ⟨by show 1 ≤ sizeLine; decide, fun t1 n1 => ⟨by show 1 ≤ sizeLine; decide, fun t2 n2 => ⟨by show 2 ≤ sizeLine; decide, fun t3 n3 => ⟨by show 3 ≤ sizeLine; decide, fun t4 n4 => ⟨by show 3 ≤ sizeLine; decide, fun l nl => ?_⟩⟩⟩⟩⟩
    have f1 : Di (upd H1 t1 (.tup [.str "stop"])) (.ref t1) (stD .stop) := .tup upd_same (.cons (.str _) .nil)
    have f2 : Di (upd (upd H1 t1 (.tup [.str "stop"])) t2 (.tup [.str "fail"])) (.ref t2) (stD .fail) := .tup upd_same (.cons (.str _) .nil)
    have f3 : Di (upd (upd (upd H1 t1 (.tup [.str "stop"])) t2 (.tup [.str "fail"])) t3 (.tup [.str "number", .int 1])) (.ref t3) (exD (.num 1)) := .tup upd_same (.cons (.str _) (.cons (.int _) .nil))
    have f4 : Di (upd (upd (upd (upd H1 t1 (.tup [.str "stop"])) t2 (.tup [.str "fail"])) t3 (.tup [.str "number", .int 1])) t4 (.tup [.str "set", .str "n", .ref t3])) (.ref t4) (stD (.set "n" (.num 1))) := .tup upd_same (.cons (.str _) (.cons (.str _) (.cons (f3.new n4) .nil)))
    have f1' := (((f1.new (o := .tup [.str "fail"]) n2).new (o := .tup [.str "number", .int 1]) n3).new (o := .tup [.str "set", .str "n", .ref t3]) n4).new (o := .lst [.ref t1, .ref t2, .ref t4]) nl
    have f2' := ((f2.new (o := .tup [.str "number", .int 1]) n3).new (o := .tup [.str "set", .str "n", .ref t3]) n4).new (o := .lst [.ref t1, .ref t2, .ref t4]) nl
    have f4' := f4.new (o := .lst [.ref t1, .ref t2, .ref t4]) nl
    have lsa := (((ls1.new (o := .tup [.str "stop"]) n1).new (o := .tup [.str "fail"]) n2).new (o := .tup [.str "number", .int 1]) n3).new (o := .tup [.str "set", .str "n", .ref t3]) n4
    have nlS := lsa.ne nl
    have kc := (((((Kp.refl (L := [S]) (H := H1)).new (o := .tup [.str "stop"]) n1).new (o := .tup [.str "fail"]) n2).new (o := .tup [.str "number", .int 1]) n3).new (o := .tup [.str "set", .str "n", .ref t3]) n4).new (o := .lst [.ref t1, .ref t2, .ref t4]) nl
    refine ⟨_, rfl, S, 3, rfl, lsa.new nl, by decide, by decide, fun H2 j k2 ls3 j0 j1 => ?_⟩
    obtain ⟨v, av, mv⟩ := pick (xs := [.ref t1, .ref t2, .ref t4]) j0 j1
    refine ⟨l, _, j, _, rfl, rfl, SqL.of (k2.kp l _ (by simpa using nlS) upd_same), av, ?_⟩
    have kk := (k1.trans kc).trans k2
    simp only [List.mem_cons, List.not_mem_nil, or_false] at mv
    rcases mv with rfl | rfl | rfl
    · exact q _ _ .stop kk ls3 (f1'.mono k2) ⟨trivial, Nat.zero_le _, Nat.zero_le _, trivial⟩
    · exact q _ _ .fail kk ls3 (f2'.mono k2) ⟨trivial, Nat.zero_le _, Nat.zero_le _, trivial⟩
    · exact q _ _ (.set "n" (.num 1)) kk ls3 (f4'.mono k2) (GS.set ⟨trivial, by decide⟩)
theorem ok_law_statement (T : Tx K mg) : ∀ n, FnOk P w K mg base (L2N.CX P w) (2 * n + 6) (He.ga K "_law_statement") T.fd_law_statement P_law_statement (spSm n)
  | 0 => fn_none fun _ _ _ _ ⟨_, _, _, _, _, _, _, _, _, h, _⟩ => Nat.not_lt_zero _ h
  | n + 1 => st_of T (by omega) (bd_of T (by omega) (ok_law_statement T n))
theorem ok_law_body (T : Tx K mg) (n : Nat) : FnOk P w K mg base (L2N.CX P w) (2 * n + 7) (He.ga K "_law_body") T.fd_law_body P_law_body (spBy n) := bd_of T (by omega) (ok_law_statement T n)
end
end Rk
/-! the law: how handlers begin; boxes. -/
namespace Rk
open PySem PySem.Spec PyProof.Rows L2
def begn0 : List St := [.set "y" (.num 0), .iff (.nam "y") [.spawn "shop" [] "c"] []]
def begn (b : List St) : List St := begn0 ++ b
theorem newT {L : List Addr} {H : Hp} {S t : Addr} {xs : List V} {ds : List PyData} {D : PyData} (nt : H t = none) (dl : Dl H xs ds) (hD : D = .tuple ds) :
    Kp L H (upd H t (.tup xs)) ∧ (LsAt H S → LsAt (upd H t (.tup xs)) S) ∧ Di (upd H t (.tup xs)) (.ref t) D :=
  ⟨Kp.refl.new nt, fun l => l.new nt, by rw [hD]; exact .tup upd_same (dl.new nt)⟩
theorem newL {L : List Addr} {H : Hp} {S t : Addr} {xs : List V} {ds : List PyData} {D : PyData} (od : Obj) (nt : H t = none) (dl : Dl H xs ds) (hD : D = .list ds) :
    Kp L H (upd (upd H t (.lst xs)) t (.frz od (.lst xs))) ∧ (LsAt H S → LsAt (upd (upd H t (.lst xs)) t (.frz od (.lst xs))) S) ∧ (upd (upd H t (.lst xs)) t (.frz od (.lst xs))) t = some (.frz od (.lst xs)) ∧ Di (upd (upd H t (.lst xs)) t (.frz od (.lst xs))) (.ref t) D :=
  ⟨(Kp.refl.new nt).own nt, fun l => l.keep ((Kp.refl.new nt).own nt), upd_same, by rw [hD]; exact .lst upd_same (dl.mono (Kp.own (L := []) (Kp.refl.new nt) nt))⟩
section
variable {K : PySem.W.Frag} {mg : Str → Option Value} {P : Program} {w : World} {base : Heap}
def spBg : Sp := fun vs H Q _ => ∃ v b, vs = [v] ∧ Di H v (.list (bdD b)) ∧ b.length ≤ 3 ∧ ∀ Ha u, Kp [] H Ha → Di Ha u (.list (bdD (begn b))) → Q u Ha
theorem ok_law_begun (T : Tx K mg) : FnOk P w K mg base (L2N.CX P w) 1 (He.ga K "_law_begun") T.fd_law_begun P_law_begun spBg := by
  refine T.D_law_begun.ok sc_law_begun (fun vs H Q E h => by obtain ⟨v, b, rfl, _⟩ := h; rfl) fun cdv A outer s H vs Q E hr h => ⟨_, (pss_one (ps_ret (pe_fz (pe_op op_catL (pe_fz (pe_lst (pa_cons (pe_tup (pa_cons pe_str (pa_cons pe_str (pa_cons (pe_tup (pa_cons pe_str (pa_cons pe_int pa_nil))) pa_nil)))) (pa_cons (pe_tup (pa_cons pe_str (pa_cons (pe_tup (pa_cons pe_str (pa_cons pe_str pa_nil))) (pa_cons (pe_fz (pe_lst (pa_cons (pe_tup (pa_cons pe_str (pa_cons pe_str (pa_cons (pe_fz (pe_lst pa_nil)) (pa_cons pe_str pa_nil))))) pa_nil))) (pa_cons (pe_fz (pe_lst pa_nil)) pa_nil))))) pa_nil)))) (pv 0))))), ?_⟩
  obtain ⟨v, b, rfl, dv, l3, q⟩ := h
  refine ⟨by show 2 ≤ sizeLine; decide, fun t1 nt1 => ?_⟩
  obtain ⟨k1, ls1, d1⟩ := newT (L := []) (S := 0) (D := exD (.num 0)) (xs := [.str "number", .int 0]) nt1 (.cons (.str _) (.cons (.int _) .nil)) rfl
  generalize upd H t1 (.tup [.str "number", .int 0]) = H1 at k1 ls1 d1 ⊢
  refine ⟨by show 3 ≤ sizeLine; decide, fun t2 nt2 => ?_⟩
  obtain ⟨k2, ls2, d2⟩ := newT (L := []) (S := 0) (D := stD (.set "y" (.num 0))) (xs := [.str "set", .str "y", .ref t1]) nt2 (.cons (.str _) (.cons (.str _) (.cons d1 .nil))) rfl
  generalize upd H1 t2 (.tup [.str "set", .str "y", .ref t1]) = H2 at k2 ls2 d2 ⊢
  refine ⟨by show 2 ≤ sizeLine; decide, fun t3 nt3 => ?_⟩
  obtain ⟨k3, ls3, d3⟩ := newT (L := []) (S := 0) (D := exD (.nam "y")) (xs := [.str "name", .str "y"]) nt3 (.cons (.str _) (.cons (.str _) .nil)) rfl
  generalize upd H2 t3 (.tup [.str "name", .str "y"]) = H3 at k3 ls3 d3 ⊢
  refine ⟨by show 0 ≤ sizeLine; decide, fun t4 nt4 => ⟨t4, _, upd_same, True.intro, fun od4 => ?_⟩⟩
  obtain ⟨k4, ls4, e4, d4⟩ := newL (L := []) (S := 0) (D := .list (([] : List Ex).map exD)) (xs := []) od4 nt4 (.nil) rfl
  generalize upd (upd H3 t4 (.lst [])) t4 (.frz od4 (.lst [])) = H4 at k4 ls4 e4 d4 ⊢
  refine ⟨by show 4 ≤ sizeLine; decide, fun t5 nt5 => ?_⟩
  obtain ⟨k5, ls5, d5⟩ := newT (L := []) (S := 0) (D := stD (.spawn "shop" [] "c")) (xs := [.str "spawn", .str "shop", .ref t4, .str "c"]) nt5 (.cons (.str _) (.cons (.str _) (.cons d4 (.cons (.str _) .nil)))) rfl
  generalize upd H4 t5 (.tup [.str "spawn", .str "shop", .ref t4, .str "c"]) = H5 at k5 ls5 d5 ⊢
  refine ⟨by show 1 ≤ sizeLine; decide, fun t6 nt6 => ⟨t6, _, upd_same, True.intro, fun od6 => ?_⟩⟩
  obtain ⟨k6, ls6, e6, d6⟩ := newL (L := []) (S := 0) (D := .list (bdD [.spawn "shop" [] "c"])) (xs := [.ref t5]) od6 nt6 (.cons d5 .nil) rfl
  generalize upd (upd H5 t6 (.lst [.ref t5])) t6 (.frz od6 (.lst [.ref t5])) = H6 at k6 ls6 e6 d6 ⊢
  refine ⟨by show 0 ≤ sizeLine; decide, fun t7 nt7 => ⟨t7, _, upd_same, True.intro, fun od7 => ?_⟩⟩
  obtain ⟨k7, ls7, e7, d7⟩ := newL (L := []) (S := 0) (D := .list (bdD [])) (xs := []) od7 nt7 (.nil) rfl
  generalize upd (upd H6 t7 (.lst [])) t7 (.frz od7 (.lst [])) = H7 at k7 ls7 e7 d7 ⊢
  refine ⟨by show 4 ≤ sizeLine; decide, fun t8 nt8 => ?_⟩
  obtain ⟨k8, ls8, d8⟩ := newT (L := []) (S := 0) (D := stD (.iff (.nam "y") [.spawn "shop" [] "c"] [])) (xs := [.str "if", .ref t3, .ref t6, .ref t7]) nt8 (.cons (.str _) (.cons (d3.mono (((k4.trans k5).trans k6).trans k7)) (.cons (d6.mono k7) (.cons d7 .nil)))) rfl
  generalize upd H7 t8 (.tup [.str "if", .ref t3, .ref t6, .ref t7]) = H8 at k8 ls8 d8 ⊢
  refine ⟨by show 2 ≤ sizeLine; decide, fun t9 nt9 => ⟨t9, _, upd_same, True.intro, fun od9 => ?_⟩⟩
  obtain ⟨k9, ls9, e9, d9⟩ := newL (L := []) (S := 0) (D := .list (bdD begn0)) (xs := [.ref t2, .ref t8]) od9 nt9 (.cons (d2.mono (((((k3.trans k4).trans k5).trans k6).trans k7).trans k8)) (.cons d8 .nil)) rfl
  generalize upd (upd H8 t9 (.lst [.ref t2, .ref t8])) t9 (.frz od9 (.lst [.ref t2, .ref t8])) = H9 at k9 ls9 e9 d9 ⊢
  have dv2 := dv.mono ((((((((k1.trans k2).trans k3).trans k4).trans k5).trans k6).trans k7).trans k8).trans k9)
  obtain ⟨p, o, xs, rfl, ep, dl⟩ := dv2.inv_lst
  refine ⟨_, rfl, t9, p, _, xs, rfl, rfl, .inr ⟨_, e9⟩, .inr ⟨o, ep⟩, ?_, fun r nr => ⟨r, _, upd_same, True.intro, fun od => ?_⟩⟩
  · have := dl.length
    rw [bdD_length] at this
    show 2 + xs.length ≤ sizeLine
    exact small (by omega)
  have kz : Kp [] H9 (upd (upd H9 r (.lst ([.ref t2, .ref t8] ++ xs))) r (.frz od (.lst ([.ref t2, .ref t8] ++ xs)))) := (Kp.refl.new nr).own nr
  refine q _ _ (((((((((k1.trans k2).trans k3).trans k4).trans k5).trans k6).trans k7).trans k8).trans k9).trans kz) (.lst upd_same ?_)
  show Dl _ _ (bdD (begn0 ++ b))
  rw [bdD_map, List.map_append, ← bdD_map, ← bdD_map]
  exact Dl.append (.cons ((d2.mono ((((((k3.trans k4).trans k5).trans k6).trans k7).trans k8).trans k9)).mono kz) (.cons ((d8.mono k9).mono kz) .nil)) (dl.mono kz)

def spBx : Sp := fun vs H Q _ => ∃ a b oa ob, ∃ xs ys : List Str, vs = [.ref a, .ref b] ∧ H a = some (.frz oa (.lst (xs.map V.str))) ∧ H b = some (.frz ob (.lst (ys.map V.str))) ∧ xs.length ≤ 10 ∧ ys.length ≤ 10 ∧ ∀ Ha B, Kp [] H Ha → BxAt Ha B (xs ++ ys ++ (["c", "y"] : List Str)) → Q (.ref B) Ha
theorem ok_law_box (T : Tx K mg) : FnOk P w K mg base (L2N.CX P w) 1 (He.ga K "_law_box") T.fd_law_box P_law_box spBx := by
  refine T.D_law_box.ok sc_law_box (fun vs H Q E h => by obtain ⟨a, b, oa, ob, xs, ys, rfl, _⟩ := h; rfl) fun cdv A outer s H vs Q E hr h => ⟨_, (pss_cons (ps_set (i := 2) sc_law_box.nd rfl (.inl rfl) (pe_fz (pe_op op_catL (pe_op op_catL (pv 0) (pv 1)) (pe_fz (pe_lst (pa_cons pe_str (pa_cons pe_str pa_nil)))))))
    (pss_cons (ps_set (i := 3) sc_law_box.nd rfl (.inl rfl) (pe_fz (pe_lst (pa_cons (pe_tup (pa_cons pe_str (pa_cons pe_int pa_nil))) (pa_cons (pe_tup (pa_cons pe_str (pa_cons pe_int pa_nil))) (pa_cons (pe_tup (pa_cons pe_str (pa_cons pe_int pa_nil))) (pa_cons (pe_tup (pa_cons pe_str (pa_cons pe_int pa_nil))) pa_nil)))))))
    (pss_one (ps_ret (pe_fz (pe_disp (pps_cons pe_str (pv 2) (pps_cons pe_str (pe_fz (pe_op op_catL (pv 0) (pe_fz (pe_lst (pa_cons pe_str pa_nil))))) (pps_cons pe_str (pv 3) (pps_cons pe_str (pe_fz (pe_lst (pa_cons (pe_tup (pa_cons pe_str (pa_cons pe_int pa_nil))) (pa_cons (pe_tup (pa_cons pe_str (pa_cons pe_int pa_nil))) pa_nil)))) pps_nil)))) rfl rfl (by simp) (by decide))))))), ?_⟩
  obtain ⟨a, b, oa, ob, xs, ys, rfl, ea, eb, lx, ly, q⟩ := h
  refine ⟨_, rfl, _, rfl, a, b, _, _, rfl, rfl, .inr ⟨oa, ea⟩, .inr ⟨ob, eb⟩, by rw [List.length_map, List.length_map]; exact small (by omega), fun p np => ?_⟩
  have k1 : Kp [] H (upd H p (.lst (xs.map V.str ++ ys.map V.str))) := Kp.refl.new np
  have e1 : (upd H p (.lst (xs.map V.str ++ ys.map V.str))) p = some (.lst (xs.map V.str ++ ys.map V.str)) := upd_same
  generalize upd H p (.lst (xs.map V.str ++ ys.map V.str)) = H1 at k1 e1 ⊢
  refine ⟨by show 2 ≤ sizeLine; decide, fun t2 nt2 => ⟨t2, _, upd_same, True.intro, fun od2 => ?_⟩⟩
  obtain ⟨k2, ls2, e2, d2⟩ := newL (L := []) (S := 0) (D := .list [.str "c", .str "y"]) (xs := [.str "c", .str "y"]) od2 nt2 (.cons (.str _) (.cons (.str _) .nil)) rfl
  generalize upd (upd H1 t2 (.lst [.str "c", .str "y"])) t2 (.frz od2 (.lst [.str "c", .str "y"])) = H2 at k2 ls2 e2 d2 ⊢
  refine ⟨p, t2, _, _, rfl, rfl, .inl (k2.same _ _ e1), .inr ⟨_, e2⟩, by rw [List.length_append, List.length_map, List.length_map]; exact small (by show xs.length + ys.length + 2 ≤ _; omega), fun N nN => ⟨N, _, upd_same, True.intro, fun oN => ?_⟩⟩
  have k3 : Kp [] H2 (upd (upd H2 N (.lst (xs.map V.str ++ ys.map V.str ++ [.str "c", .str "y"]))) N (.frz oN (.lst (xs.map V.str ++ ys.map V.str ++ [.str "c", .str "y"])))) := (Kp.refl.new nN).own nN
  have e3 : (upd (upd H2 N (.lst (xs.map V.str ++ ys.map V.str ++ [.str "c", .str "y"]))) N (.frz oN (.lst (xs.map V.str ++ ys.map V.str ++ [.str "c", .str "y"])))) N = some (.frz oN (.lst (xs.map V.str ++ ys.map V.str ++ [.str "c", .str "y"]))) := upd_same
  generalize upd (upd H2 N (.lst (xs.map V.str ++ ys.map V.str ++ [.str "c", .str "y"]))) N (.frz oN (.lst (xs.map V.str ++ ys.map V.str ++ [.str "c", .str "y"]))) = H3 at k3 e3 ⊢
  refine ⟨by show 2 ≤ sizeLine; decide, fun t4 nt4 => ?_⟩
  obtain ⟨k4, ls4, d4⟩ := newT (L := []) (S := 0) (D := rowD ("go", 1)) (xs := [.str "go", .int 1]) nt4 (.cons (.str _) (.cons (.int _) .nil)) rfl
  generalize upd H3 t4 (.tup [.str "go", .int 1]) = H4 at k4 ls4 d4 ⊢
  refine ⟨by show 2 ≤ sizeLine; decide, fun t5 nt5 => ?_⟩
  obtain ⟨k5, ls5, d5⟩ := newT (L := []) (S := 0) (D := rowD ("add", 2)) (xs := [.str "add", .int 2]) nt5 (.cons (.str _) (.cons (.int _) .nil)) rfl
  generalize upd H4 t5 (.tup [.str "add", .int 2]) = H5 at k5 ls5 d5 ⊢
  refine ⟨by show 2 ≤ sizeLine; decide, fun t6 nt6 => ?_⟩
  obtain ⟨k6, ls6, d6⟩ := newT (L := []) (S := 0) (D := rowD ("back", 1)) (xs := [.str "back", .int 1]) nt6 (.cons (.str _) (.cons (.int _) .nil)) rfl
  generalize upd H5 t6 (.tup [.str "back", .int 1]) = H6 at k6 ls6 d6 ⊢
  refine ⟨by show 2 ≤ sizeLine; decide, fun t7 nt7 => ?_⟩
  obtain ⟨k7, ls7, d7⟩ := newT (L := []) (S := 0) (D := rowD ("none", 0)) (xs := [.str "none", .int 0]) nt7 (.cons (.str _) (.cons (.int _) .nil)) rfl
  generalize upd H6 t7 (.tup [.str "none", .int 0]) = H7 at k7 ls7 d7 ⊢
  refine ⟨by show 4 ≤ sizeLine; decide, fun t8 nt8 => ⟨t8, _, upd_same, True.intro, fun od8 => ?_⟩⟩
  obtain ⟨k8, ls8, e8, d8⟩ := newL (L := []) (S := 0) (D := msD) (xs := [.ref t4, .ref t5, .ref t6, .ref t7]) od8 nt8 (.cons (d4.mono ((k5.trans k6).trans k7)) (.cons (d5.mono (k6.trans k7)) (.cons (d6.mono k7) (.cons d7 .nil)))) rfl
  generalize upd (upd H7 t8 (.lst [.ref t4, .ref t5, .ref t6, .ref t7])) t8 (.frz od8 (.lst [.ref t4, .ref t5, .ref t6, .ref t7])) = H8 at k8 ls8 e8 d8 ⊢
  intro B nB
  have k9 : Kp [] H8 (upd H8 B (.dK [])) := Kp.refl.new nB
  have eB : (upd H8 B (.dK [])) B = some (.dK []) := upd_same
  generalize upd H8 B (.dK []) = H9 at k9 eB ⊢
  refine ⟨_, rfl, _, rfl, by show 1 ≤ sizeLine; decide, fun t10 nt10 => ⟨t10, _, upd_same, True.intro, fun od10 => ?_⟩⟩
  obtain ⟨k10, ls10, e10, d10⟩ := newL (L := []) (S := 0) (D := .list [.str "y"]) (xs := [.str "y"]) od10 nt10 (.cons (.str _) .nil) rfl
  generalize upd (upd H9 t10 (.lst [.str "y"])) t10 (.frz od10 (.lst [.str "y"])) = H10 at k10 ls10 e10 d10 ⊢
  refine ⟨a, t10, _, _, rfl, rfl, .inr ⟨oa, ((((((((((k1.trans k2).trans k3).trans k4).trans k5).trans k6).trans k7).trans k8).trans k9).trans k10).frz _ _ _ ea)⟩, .inr ⟨_, e10⟩, by rw [List.length_map]; exact small (by show xs.length + 1 ≤ _; omega), fun X nX => ⟨X, _, upd_same, True.intro, fun oX => ?_⟩⟩
  have k11 : Kp [] H10 (upd (upd H10 X (.lst (xs.map V.str ++ [.str "y"]))) X (.frz oX (.lst (xs.map V.str ++ [.str "y"])))) := (Kp.refl.new nX).own nX
  have eX : (upd (upd H10 X (.lst (xs.map V.str ++ [.str "y"]))) X (.frz oX (.lst (xs.map V.str ++ [.str "y"])))) X = some (.frz oX (.lst (xs.map V.str ++ [.str "y"]))) := upd_same
  generalize upd (upd H10 X (.lst (xs.map V.str ++ [.str "y"]))) X (.frz oX (.lst (xs.map V.str ++ [.str "y"]))) = H11 at k11 eX ⊢
  refine ⟨_, rfl, by show 2 ≤ sizeLine; decide, fun t12 nt12 => ?_⟩
  obtain ⟨k12, ls12, d12⟩ := newT (L := []) (S := 0) (D := rowD ("shop", 0)) (xs := [.str "shop", .int 0]) nt12 (.cons (.str _) (.cons (.int _) .nil)) rfl
  generalize upd H11 t12 (.tup [.str "shop", .int 0]) = H12 at k12 ls12 d12 ⊢
  refine ⟨by show 2 ≤ sizeLine; decide, fun t13 nt13 => ?_⟩
  obtain ⟨k13, ls13, d13⟩ := newT (L := []) (S := 0) (D := rowD ("helper", 1)) (xs := [.str "helper", .int 1]) nt13 (.cons (.str _) (.cons (.int _) .nil)) rfl
  generalize upd H12 t13 (.tup [.str "helper", .int 1]) = H13 at k13 ls13 d13 ⊢
  refine ⟨by show 2 ≤ sizeLine; decide, fun t14 nt14 => ⟨t14, _, upd_same, True.intro, fun od14 => ?_⟩⟩
  obtain ⟨k14, ls14, e14, d14⟩ := newL (L := []) (S := 0) (D := ksD) (xs := [.ref t12, .ref t13]) od14 nt14 (.cons (d12.mono k13) (.cons d13 .nil)) rfl
  generalize upd (upd H13 t14 (.lst [.ref t12, .ref t13])) t14 (.frz od14 (.lst [.ref t12, .ref t13])) = H14 at k14 ls14 e14 d14 ⊢
  refine ⟨((((k10.trans k11).trans k12).trans k13).trans k14).same _ _ eB, [((.inr "names" : Key), V.ref N), (.inr "sets", .ref X), (.inr "messages", .ref t8), (.inr "kinds", .ref t14)], rfl, by show 4 ≤ 15; decide, B, _, upd_same, True.intro, fun od => ?_⟩
  have nBH : H B = none := (((((((k1.trans k2).trans k3).trans k4).trans k5).trans k6).trans k7).trans k8).dom _ nB
  have kz := ((((((((((((((k1.trans k2).trans k3).trans k4).trans k5).trans k6).trans k7).trans k8).trans k9).trans k10).trans k11).trans k12).trans k13).trans k14).own (o := .dK (mergeK [] [((.inr "names" : Key), V.ref N), (.inr "sets", .ref X), (.inr "messages", .ref t8), (.inr "kinds", .ref t14)])) nBH).own (o := .frz od (.dK (mergeK [] [((.inr "names" : Key), V.ref N), (.inr "sets", .ref X), (.inr "messages", .ref t8), (.inr "kinds", .ref t14)]))) nBH
  have kw : Kp [B] H14 (upd (upd H14 B (.dK (mergeK [] [((.inr "names" : Key), V.ref N), (.inr "sets", .ref X), (.inr "messages", .ref t8), (.inr "kinds", .ref t14)]))) B (.frz od (.dK (mergeK [] [((.inr "names" : Key), V.ref N), (.inr "sets", .ref X), (.inr "messages", .ref t8), (.inr "kinds", .ref t14)])))) := (Kp.refl.wr (by simp) (((((k10.trans k11).trans k12).trans k13).trans k14).same _ _ eB)).wr (by simp) upd_same
  refine q _ B kz ⟨od, N, oN, X, oX, _, _, xs ++ (["y"] : List Str), upd_same, ?_, ?_, by simp, by simp; omega, (d8.mono (((((k9.trans k10).trans k11).trans k12).trans k13).trans k14)).mono kw, d14.mono kw⟩
  · rw [List.map_append, List.map_append]; exact kw.frz _ _ _ (((((((((((k4.trans k5).trans k6).trans k7).trans k8).trans k9).trans k10).trans k11).trans k12).trans k13).trans k14).frz _ _ _ e3)
  · rw [List.map_append]; exact kw.frz _ _ _ (((k12.trans k13).trans k14).frz _ _ _ eX)

end
end Rk
/-! the law: its programs. -/
namespace Rk
open PySem PySem.Spec PyProof.Rows L2
def mainS (j : Int) : List (Str × Ex) := [("n", .num j), ("m", .bin .plus (.nam "n") (.num 1))]
def ownS (e : Ex) : List (Str × Ex) := [("k", .nam "p"), ("w", e)]
def shopH (b1 b2 : List St) : List Hd := [⟨"go", ["x"], begn b1⟩, ⟨"add", ["x", "z"], begn b2⟩]
def helpH (b1 b2 : List St) : List Hd := [⟨"back", ["x"], begn b1⟩, ⟨"go", ["x"], begn b2⟩]
def shopA (j : Int) (b1 b2 : List St) : Act := ⟨"shop", [], mainS j, shopH b1 b2⟩
def helpA (e : Ex) (b1 b2 : List St) : Act := ⟨"helper", ["p"], ownS e, helpH b1 b2⟩
def prgL (j : Int) (e : Ex) (b1 b2 b3 b4 : List St) : Prg := ⟨[("pay", 1)], [shopA j b1 b2, helpA e b3 b4]⟩
theorem begn_ok {msg : Str} {ns pars ks : List Str} {b : List St} (g : GB ns 1 b) (l : b.length ≤ 3) (h : ∀ x ∈ ns, x ∈ pars ∨ x ∈ ks ∨ x = "c" ∨ x = "y") (few : pars.length ≤ 10) : HdOk ⟨msg, pars, begn b⟩ ks := by
  have hc : ∀ x : Str, x = "c" ∨ x = "y" → x ∈ nsL (begn b) := by
    rintro x (rfl | rfl)
    · exact List.mem_cons_of_mem _ List.mem_cons_self
    · exact List.mem_cons_self
  have hb : ∀ x ∈ nsL b, x ∈ nsL (begn b) := fun x m => List.mem_cons_of_mem _ (List.mem_cons_of_mem _ m)
  have hy : hdom ⟨msg, pars, begn b⟩ ks "y" := .inr (.inr (hc _ (.inr rfl)))
  refine ⟨⟨⟨hy, trivial, by decide⟩, ⟨⟨hy, by decide⟩, ⟨⟨.inr (.inr (hc _ (.inl rfl))), fun _ m => (nomatch m), by decide⟩, trivial⟩, trivial⟩, bOk_mono (fun x q => ?_) g.ok⟩, ?_, ?_, few⟩
  · rcases q with q | q
    · rcases h x q with q | q | q
      · exact .inl q
      · exact .inr (.inl q)
      · exact .inr (.inr (hc x q))
    · exact .inr (.inr (hb x q))
  · have := g.dep
    show max 0 (max 1 (bDep b)) < 3
    omega
  · have := g.few
    show (nsL b).length + 1 + 1 < 64
    omega
mutual
theorem spk_of {prg : Prg} {a1 a2 : Act} {D : Str → Prop} (h1 : actOf prg "shop" = some a1) (o1 : ActOk2 a1) (p1 : a1.pars.length = 0) (h2 : actOf prg "helper" = some a2) (o2 : ActOk2 a2) (p2 : a2.pars.length = 1) : ∀ {s : St}, s.gk → s.ok D → s.spk prg
  | .set _ _, _, _ => trivial
  | .iff _ _ _, g, q => ⟨bspk_of h1 o1 p1 h2 o2 p2 g.1 q.2.1, bspk_of h1 o1 p1 h2 o2 p2 g.2 q.2.2⟩
  | .rep _ _, g, q => bspk_of h1 o1 p1 h2 o2 p2 g q.2
  | .send _ _ _, _, q => q.2.2
  | .spawn k as x, g, _ => by
    rcases g with ⟨rfl, rfl⟩ | ⟨rfl, l⟩
    · exact ⟨a1, h1, o1, p1.symm⟩
    · exact ⟨a2, h2, o2, l.trans p2.symm⟩
  | .call _ _ _, _, q => q.2
  | .stop, _, _ => trivial
  | .fail, _, _ => trivial
theorem bspk_of {prg : Prg} {a1 a2 : Act} {D : Str → Prop} (h1 : actOf prg "shop" = some a1) (o1 : ActOk2 a1) (p1 : a1.pars.length = 0) (h2 : actOf prg "helper" = some a2) (o2 : ActOk2 a2) (p2 : a2.pars.length = 1) : ∀ {b : List St}, bGk b → bOk D b → bSpk prg b
  | [], _, _ => trivial
  | _ :: _, g, q => ⟨spk_of h1 o1 p1 h2 o2 p2 g.1 q.1, bspk_of h1 o1 p1 h2 o2 p2 g.2 q.2⟩
end
structure PrgL (j : Int) (e : Ex) (b1 b2 b3 b4 : List St) : Prop where
  ex : eOk (fun x => x ∈ (["p", "k"] : List Str)) e
  g1 : GB ["n", "m", "x", "c", "y"] 1 b1
  l1 : b1.length ≤ 3
  g2 : GB ["n", "m", "x", "z", "c", "y"] 1 b2
  l2 : b2.length ≤ 3
  g3 : GB ["k", "w", "x", "c", "y"] 1 b3
  l3 : b3.length ≤ 3
  g4 : GB ["k", "w", "x", "c", "y"] 1 b4
  l4 : b4.length ≤ 3
section
variable {j : Int} {e : Ex} {b1 b2 b3 b4 : List St}
theorem PrgL.shop (h : PrgL j e b1 b2 b3 b4) : ActOk2 (shopA j b1 b2) := by
  refine ⟨⟨fun i x e hi => ?_, by show 0 ≤ 10; decide, by show 2 ≤ 20; decide, .nil⟩, by show ([("n" : Str), "m"]).Nodup; decide, fun hd m => ?_⟩
  · match i, hi with
    | 0, hi => cases hi; exact ⟨trivial, Nat.zero_lt_succ 2⟩
    | 1, hi => cases hi; exact ⟨⟨.inr List.mem_cons_self, trivial⟩, by decide⟩
    | i + 2, hi => cases hi
  · rcases List.mem_cons.mp m with rfl | m
    · exact begn_ok h.g1 h.l1 (show ∀ x ∈ (["n", "m", "x", "c", "y"] : List Str), x ∈ (["x"] : List Str) ∨ x ∈ (["n", "m"] : List Str) ∨ x = "c" ∨ x = "y" by decide) (by decide)
    · rw [List.mem_singleton.mp m]; exact begn_ok h.g2 h.l2 (show ∀ x ∈ (["n", "m", "x", "z", "c", "y"] : List Str), x ∈ (["x", "z"] : List Str) ∨ x ∈ (["n", "m"] : List Str) ∨ x = "c" ∨ x = "y" by decide) (by decide)
theorem PrgL.help (h : PrgL j e b1 b2 b3 b4) : ActOk2 (helpA e b3 b4) := by
  refine ⟨⟨fun i x e2 hi => ?_, by show 1 ≤ 10; decide, by show 2 ≤ 20; decide, by show ([("p" : Str)]).Nodup; decide⟩, by show ([("k" : Str), "w"]).Nodup; decide, fun hd m => ?_⟩
  · match i, hi with
    | 0, hi => cases hi; exact ⟨.inl List.mem_cons_self, by decide⟩
    | 1, hi =>
      cases hi
      refine h.ex.mono fun x m => ?_
      rcases List.mem_cons.mp m with rfl | m
      · exact .inl List.mem_cons_self
      · rw [List.mem_singleton.mp m]; exact .inr List.mem_cons_self
    | i + 2, hi => cases hi
  · rcases List.mem_cons.mp m with rfl | m
    · exact begn_ok h.g3 h.l3 (show ∀ x ∈ (["k", "w", "x", "c", "y"] : List Str), x ∈ (["x"] : List Str) ∨ x ∈ (["k", "w"] : List Str) ∨ x = "c" ∨ x = "y" by decide) (by decide)
    · rw [List.mem_singleton.mp m]; exact begn_ok h.g4 h.l4 (show ∀ x ∈ (["k", "w", "x", "c", "y"] : List Str), x ∈ (["x"] : List Str) ∨ x ∈ (["k", "w"] : List Str) ∨ x = "c" ∨ x = "y" by decide) (by decide)
theorem PrgL.ok (h : PrgL j e b1 b2 b3 b4) : PrgOk (prgL j e b1 b2 b3 b4) := by
  have h1 : actOf (prgL j e b1 b2 b3 b4) "shop" = some (shopA j b1 b2) := rfl
  have h2 : actOf (prgL j e b1 b2 b3 b4) "helper" = some (helpA e b3 b4) := rfl
  have two : ∀ k a, actOf (prgL j e b1 b2 b3 b4) k = some a → a = shopA j b1 b2 ∨ a = helpA e b3 b4 := fun k a q => by
    have m := List.mem_of_find?_eq_some q
    rcases List.mem_cons.mp m with m | m
    · exact .inl m
    · exact .inr (List.mem_singleton.mp m)
  have sp : ∀ {b ns}, GB ns 1 b → bSpk (prgL j e b1 b2 b3 b4) (begn b) := fun g =>
    ⟨trivial, ⟨⟨⟨_, h1, h.shop, rfl⟩, trivial⟩, trivial⟩, bspk_of h1 h.shop rfl h2 h.help rfl g.gk g.ok⟩
  refine ⟨fun k a q => ?_, fun k a q hd m => ?_⟩
  · rcases two k a q with rfl | rfl
    · exact h.shop
    · exact h.help
  · rcases two k a q with rfl | rfl
    · refine ⟨h.shop.hds hd m, ?_⟩
      rcases List.mem_cons.mp m with rfl | m
      · exact sp h.g1
      · rw [List.mem_singleton.mp m]; exact sp h.g2
    · refine ⟨h.help.hds hd m, ?_⟩
      rcases List.mem_cons.mp m with rfl | m
      · exact sp h.g3
      · rw [List.mem_singleton.mp m]; exact sp h.g4
theorem PrgL.fst (h : PrgL j e b1 b2 b3 b4) : FstOk (prgL j e b1 b2 b3 b4) ⟨[([], bornA "shop" (shopA j b1 b2) [])], [], [], []⟩ (shopA j b1 b2) := ⟨rfl, rfl, rfl, rfl⟩
end
theorem Di.dl {H : Hp} {p : Addr} {o : Obj} {xs : List V} {ds : List PyData} (d : Di H (.ref p) (.list ds)) (e : H p = some (.frz o (.lst xs))) : Dl H xs ds := by
  obtain ⟨a, o2, ys, ea, e2, l⟩ := d.inv_lst
  cases ea
  rw [e] at e2
  cases e2
  exact l
section
variable {K : PySem.W.Frag} {mg : Str → Option Value} {P : Program} {w : World} {base : Heap}
def spPg (K : PySem.W.Frag) : Sp := fun vs H Q _ => ∃ S, vs = [.ref S] ∧ LsAt H S ∧ ∀ Ha v prg s0 a, Kp [S] H Ha → LsAt Ha S → PrgAt K Ha v prg → PrgOk prg → FstOk prg s0 a → prg.acts.length ≤ 100 → Q v Ha
theorem ok_law_program (T : Tx K mg) : FnOk P w K mg base (L2N.CX P w) 12 (He.ga K "_law_program") T.fd_law_program P_law_program (spPg K) := by
  refine T.D_law_program.ok sc_law_program (fun vs H Q E h => by obtain ⟨S, rfl, _⟩ := h; rfl) fun cdv A outer s H vs Q E hr h => ⟨_, (pss_cons (ps_set (i := 1) sc_law_program.nd rfl (.inl rfl) (pe_fz (pe_lst (pa_cons (pe_tup (pa_cons pe_str (pa_cons (pe_tup (pa_cons pe_str (pa_cons (pe_call (ok_law_draw T) (hr.mono (by decide)) rfl T.g__law_draw T.p_law_draw T.b_law_draw .nil pass0 (pa_cons (pv 0) (pa_cons pe_int pa_nil))) pa_nil))) pa_nil))) (pa_cons (pe_tup (pa_cons pe_str (pa_cons (pe_tup (pa_cons pe_str (pa_cons (pe_tup (pa_cons pe_str (pa_cons pe_str pa_nil))) (pa_cons (pe_tup (pa_cons pe_str (pa_cons pe_int pa_nil))) pa_nil)))) pa_nil))) pa_nil)))))
    (pss_cons (ps_set (i := 2) sc_law_program.nd rfl (.inl rfl) (pe_fz (pe_lst (pa_cons (pe_tup (pa_cons pe_str (pa_cons (pe_tup (pa_cons pe_str (pa_cons pe_str pa_nil))) pa_nil))) (pa_cons (pe_tup (pa_cons pe_str (pa_cons (pe_call (ok_law_exp T 3) (hr.mono (by decide)) rfl T.g__law_exp T.p_law_exp T.b_law_exp .nil pass0 (pa_cons (pv 0) (pa_cons (pe_fz (pe_lst (pa_cons pe_str (pa_cons pe_str pa_nil)))) (pa_cons pe_int pa_nil)))) pa_nil))) pa_nil)))))
    (pss_cons (ps_set (i := 3) sc_law_program.nd rfl (.inl rfl) (pe_call (ok_law_box T) (hr.mono (by decide)) rfl T.g__law_box T.p_law_box T.b_law_box .nil pass0 (pa_cons (pe_fz (pe_lst (pa_cons pe_str (pa_cons pe_str pa_nil)))) (pa_cons (pe_fz (pe_lst (pa_cons pe_str pa_nil))) pa_nil))))
    (pss_cons (ps_set (i := 4) sc_law_program.nd rfl (.inl rfl) (pe_call (ok_law_box T) (hr.mono (by decide)) rfl T.g__law_box T.p_law_box T.b_law_box .nil pass0 (pa_cons (pe_fz (pe_lst (pa_cons pe_str (pa_cons pe_str pa_nil)))) (pa_cons (pe_fz (pe_lst (pa_cons pe_str pa_nil))) pa_nil))))
    (pss_cons (ps_set (i := 5) sc_law_program.nd rfl (.inl rfl) (pe_call (ok_law_box T) (hr.mono (by decide)) rfl T.g__law_box T.p_law_box T.b_law_box .nil pass0 (pa_cons (pe_fz (pe_lst (pa_cons pe_str (pa_cons pe_str pa_nil)))) (pa_cons (pe_fz (pe_lst (pa_cons pe_str (pa_cons pe_str pa_nil)))) pa_nil))))
    (pss_cons (ps_set (i := 6) sc_law_program.nd rfl (.inl rfl) (pe_fz (pe_lst (pa_cons (pe_tup (pa_cons pe_str (pa_cons (pe_fz (pe_lst (pa_cons pe_str pa_nil))) (pa_cons (pe_call (ok_law_begun T) (hr.mono (by decide)) rfl T.g__law_begun T.p_law_begun T.b_law_begun .nil pass0 (pa_cons (pe_call (ok_law_body T 2) hr rfl T.g__law_body T.p_law_body T.b_law_body .nil pass0 (pa_cons (pv 0) (pa_cons (pv 3) (pa_cons pe_int pa_nil)))) pa_nil)) pa_nil)))) (pa_cons (pe_tup (pa_cons pe_str (pa_cons (pe_fz (pe_lst (pa_cons pe_str (pa_cons pe_str pa_nil)))) (pa_cons (pe_call (ok_law_begun T) (hr.mono (by decide)) rfl T.g__law_begun T.p_law_begun T.b_law_begun .nil pass0 (pa_cons (pe_call (ok_law_body T 2) hr rfl T.g__law_body T.p_law_body T.b_law_body .nil pass0 (pa_cons (pv 0) (pa_cons (pv 5) (pa_cons pe_int pa_nil)))) pa_nil)) pa_nil)))) pa_nil)))))
    (pss_cons (ps_set (i := 7) sc_law_program.nd rfl (.inl rfl) (pe_fz (pe_lst (pa_cons (pe_tup (pa_cons pe_str (pa_cons (pe_fz (pe_lst (pa_cons pe_str pa_nil))) (pa_cons (pe_call (ok_law_begun T) (hr.mono (by decide)) rfl T.g__law_begun T.p_law_begun T.b_law_begun .nil pass0 (pa_cons (pe_call (ok_law_body T 2) hr rfl T.g__law_body T.p_law_body T.b_law_body .nil pass0 (pa_cons (pv 0) (pa_cons (pv 4) (pa_cons pe_int pa_nil)))) pa_nil)) pa_nil)))) (pa_cons (pe_tup (pa_cons pe_str (pa_cons (pe_fz (pe_lst (pa_cons pe_str pa_nil))) (pa_cons (pe_call (ok_law_begun T) (hr.mono (by decide)) rfl T.g__law_begun T.p_law_begun T.b_law_begun .nil pass0 (pa_cons (pe_call (ok_law_body T 2) hr rfl T.g__law_body T.p_law_body T.b_law_body .nil pass0 (pa_cons (pv 0) (pa_cons (pv 4) (pa_cons pe_int pa_nil)))) pa_nil)) pa_nil)))) pa_nil)))))
    (pss_one (ps_ret (pe_fz (pe_make T.k_Program (ok_Program_init T) (hr.mono (by decide)) rfl T.g_Program T.b_Program_init .nil pass0 (pa_cons (pe_fz (pe_lst (pa_cons (pe_tup (pa_cons pe_str (pa_cons pe_int pa_nil))) pa_nil))) (pa_cons (pe_fz (pe_lst (pa_cons (pe_fz (pe_make T.k_Actor (ok_Actor_init T) (hr.mono (by decide)) rfl T.g_Actor T.b_Actor_init .nil pass0 (pa_cons pe_str (pa_cons (pe_fz (pe_lst pa_nil)) (pa_cons (pv 1) (pa_cons (pv 6) pa_nil)))))) (pa_cons (pe_fz (pe_make T.k_Actor (ok_Actor_init T) (hr.mono (by decide)) rfl T.g_Actor T.b_Actor_init .nil pass0 (pa_cons pe_str (pa_cons (pe_fz (pe_lst (pa_cons pe_str pa_nil))) (pa_cons (pv 2) (pa_cons (pv 7) pa_nil)))))) pa_nil)))) pa_nil))))))))))))), ?_⟩
  obtain ⟨S, rfl, ls, q⟩ := h
  refine ⟨_, rfl, S, 5, rfl, ls, by decide, by decide, fun H1 j0 k1 ls1 _ _ => ?_⟩
  refine ⟨by show 2 ≤ sizeLine; decide, fun t2 nt2 => ?_⟩
  obtain ⟨k2, ls2, d2⟩ := newT (L := [S]) (S := S) (D := exD (.num j0)) (xs := [.str "number", .int j0]) nt2 (.cons (.str _) (.cons (.int _) .nil)) rfl
  replace ls2 := ls2 ls1
  generalize upd H1 t2 (.tup [.str "number", .int j0]) = H2 at k2 ls2 d2 ⊢
  refine ⟨by show 2 ≤ sizeLine; decide, fun t3 nt3 => ?_⟩
  obtain ⟨k3, ls3, d3⟩ := newT (L := [S]) (S := S) (D := sxD ("n", .num j0)) (xs := [.str "n", .ref t2]) nt3 (.cons (.str _) (.cons d2 .nil)) rfl
  replace ls3 := ls3 ls2
  generalize upd H2 t3 (.tup [.str "n", .ref t2]) = H3 at k3 ls3 d3 ⊢
  refine ⟨by show 2 ≤ sizeLine; decide, fun t4 nt4 => ?_⟩
  obtain ⟨k4, ls4, d4⟩ := newT (L := [S]) (S := S) (D := exD (.nam "n")) (xs := [.str "name", .str "n"]) nt4 (.cons (.str _) (.cons (.str _) .nil)) rfl
  replace ls4 := ls4 ls3
  generalize upd H3 t4 (.tup [.str "name", .str "n"]) = H4 at k4 ls4 d4 ⊢
  refine ⟨by show 2 ≤ sizeLine; decide, fun t5 nt5 => ?_⟩
  obtain ⟨k5, ls5, d5⟩ := newT (L := [S]) (S := S) (D := exD (.num 1)) (xs := [.str "number", .int 1]) nt5 (.cons (.str _) (.cons (.int _) .nil)) rfl
  replace ls5 := ls5 ls4
  generalize upd H4 t5 (.tup [.str "number", .int 1]) = H5 at k5 ls5 d5 ⊢
  refine ⟨by show 3 ≤ sizeLine; decide, fun t6 nt6 => ?_⟩
  obtain ⟨k6, ls6, d6⟩ := newT (L := [S]) (S := S) (D := exD (.bin .plus (.nam "n") (.num 1))) (xs := [.str "plus", .ref t4, .ref t5]) nt6 (.cons (.str _) (.cons (d4.mono k5) (.cons d5 .nil))) rfl
  replace ls6 := ls6 ls5
  generalize upd H5 t6 (.tup [.str "plus", .ref t4, .ref t5]) = H6 at k6 ls6 d6 ⊢
  refine ⟨by show 2 ≤ sizeLine; decide, fun t7 nt7 => ?_⟩
  obtain ⟨k7, ls7, d7⟩ := newT (L := [S]) (S := S) (D := sxD ("m", .bin .plus (.nam "n") (.num 1))) (xs := [.str "m", .ref t6]) nt7 (.cons (.str _) (.cons d6 .nil)) rfl
  replace ls7 := ls7 ls6
  generalize upd H6 t7 (.tup [.str "m", .ref t6]) = H7 at k7 ls7 d7 ⊢
  refine ⟨by show 2 ≤ sizeLine; decide, fun t8 nt8 => ⟨t8, _, upd_same, True.intro, fun od8 => ?_⟩⟩
  obtain ⟨k8, ls8, e8, d8⟩ := newL (L := [S]) (S := S) (D := .list ((mainS j0).map sxD)) (xs := [.ref t3, .ref t7]) od8 nt8 (.cons (d3.mono (((k4.trans k5).trans k6).trans k7)) (.cons d7 .nil)) rfl
  replace ls8 := ls8 ls7
  generalize upd (upd H7 t8 (.lst [.ref t3, .ref t7])) t8 (.frz od8 (.lst [.ref t3, .ref t7])) = H8 at k8 ls8 e8 d8 ⊢
  refine ⟨by show 2 ≤ sizeLine; decide, fun t9 nt9 => ?_⟩
  obtain ⟨k9, ls9, d9⟩ := newT (L := [S]) (S := S) (D := exD (.nam "p")) (xs := [.str "name", .str "p"]) nt9 (.cons (.str _) (.cons (.str _) .nil)) rfl
  replace ls9 := ls9 ls8
  generalize upd H8 t9 (.tup [.str "name", .str "p"]) = H9 at k9 ls9 d9 ⊢
  refine ⟨by show 2 ≤ sizeLine; decide, fun t10 nt10 => ?_⟩
  obtain ⟨k10, ls10, d10⟩ := newT (L := [S]) (S := S) (D := sxD ("k", .nam "p")) (xs := [.str "k", .ref t9]) nt10 (.cons (.str _) (.cons d9 .nil)) rfl
  replace ls10 := ls10 ls9
  generalize upd H9 t10 (.tup [.str "k", .ref t9]) = H10 at k10 ls10 d10 ⊢
  refine ⟨_, rfl, by show 2 ≤ sizeLine; decide, fun t11 nt11 => ⟨t11, _, upd_same, True.intro, fun od11 => ?_⟩⟩
  obtain ⟨k11, ls11, e11, d11⟩ := newL (L := [S]) (S := S) (D := .list [.str "p", .str "k"]) (xs := [.str "p", .str "k"]) od11 nt11 (.cons (.str _) (.cons (.str _) .nil)) rfl
  replace ls11 := ls11 ls10
  generalize upd (upd H10 t11 (.lst [.str "p", .str "k"])) t11 (.frz od11 (.lst [.str "p", .str "k"])) = H11 at k11 ls11 e11 d11 ⊢
  refine ⟨S, t11, _, 1, ["p", "k"], rfl, ls11, e11, by decide, by decide, by decide, fun H12 u12 e0 k12 ls12 d12 dep0 al0 => ?_⟩
  refine ⟨by show 2 ≤ sizeLine; decide, fun t13 nt13 => ?_⟩
  obtain ⟨k13, ls13, d13⟩ := newT (L := [S]) (S := S) (D := sxD ("w", e0)) (xs := [.str "w", u12]) nt13 (.cons (.str _) (.cons d12 .nil)) rfl
  replace ls13 := ls13 ls12
  generalize upd H12 t13 (.tup [.str "w", u12]) = H13 at k13 ls13 d13 ⊢
  refine ⟨by show 2 ≤ sizeLine; decide, fun t14 nt14 => ⟨t14, _, upd_same, True.intro, fun od14 => ?_⟩⟩
  obtain ⟨k14, ls14, e14, d14⟩ := newL (L := [S]) (S := S) (D := .list ((ownS e0).map sxD)) (xs := [.ref t10, .ref t13]) od14 nt14 (.cons (d10.mono ((k11.trans k12).trans k13)) (.cons d13 .nil)) rfl
  replace ls14 := ls14 ls13
  generalize upd (upd H13 t14 (.lst [.ref t10, .ref t13])) t14 (.frz od14 (.lst [.ref t10, .ref t13])) = H14 at k14 ls14 e14 d14 ⊢
  refine ⟨by show 2 ≤ sizeLine; decide, fun t15 nt15 => ⟨t15, _, upd_same, True.intro, fun od15 => ?_⟩⟩
  obtain ⟨k15, ls15, e15, d15⟩ := newL (L := [S]) (S := S) (D := .list (List.map PyData.str ["n", "m"])) (xs := [.str "n", .str "m"]) od15 nt15 (.cons (.str _) (.cons (.str _) .nil)) rfl
  replace ls15 := ls15 ls14
  generalize upd (upd H14 t15 (.lst [.str "n", .str "m"])) t15 (.frz od15 (.lst [.str "n", .str "m"])) = H15 at k15 ls15 e15 d15 ⊢
  refine ⟨by show 1 ≤ sizeLine; decide, fun t16 nt16 => ⟨t16, _, upd_same, True.intro, fun od16 => ?_⟩⟩
  obtain ⟨k16, ls16, e16, d16⟩ := newL (L := [S]) (S := S) (D := .list (List.map PyData.str ["x"])) (xs := [.str "x"]) od16 nt16 (.cons (.str _) .nil) rfl
  replace ls16 := ls16 ls15
  generalize upd (upd H15 t16 (.lst [.str "x"])) t16 (.frz od16 (.lst [.str "x"])) = H16 at k16 ls16 e16 d16 ⊢
  refine ⟨t15, t16, _, _, ["n", "m"], ["x"], rfl, (k16.frz _ _ _ e15), e16, by decide, by decide, fun H17 b17 kk17 bx17 => ?_⟩
  have ls17 := ls16.keep kk17
  have k17 : Kp [S] H16 H17 := kk17.more (fun _ m => nomatch m)
  refine ⟨by show 2 ≤ sizeLine; decide, fun t18 nt18 => ⟨t18, _, upd_same, True.intro, fun od18 => ?_⟩⟩
  obtain ⟨k18, ls18, e18, d18⟩ := newL (L := [S]) (S := S) (D := .list (List.map PyData.str ["k", "w"])) (xs := [.str "k", .str "w"]) od18 nt18 (.cons (.str _) (.cons (.str _) .nil)) rfl
  replace ls18 := ls18 ls17
  generalize upd (upd H17 t18 (.lst [.str "k", .str "w"])) t18 (.frz od18 (.lst [.str "k", .str "w"])) = H18 at k18 ls18 e18 d18 ⊢
  refine ⟨by show 1 ≤ sizeLine; decide, fun t19 nt19 => ⟨t19, _, upd_same, True.intro, fun od19 => ?_⟩⟩
  obtain ⟨k19, ls19, e19, d19⟩ := newL (L := [S]) (S := S) (D := .list (List.map PyData.str ["x"])) (xs := [.str "x"]) od19 nt19 (.cons (.str _) .nil) rfl
  replace ls19 := ls19 ls18
  generalize upd (upd H18 t19 (.lst [.str "x"])) t19 (.frz od19 (.lst [.str "x"])) = H19 at k19 ls19 e19 d19 ⊢
  refine ⟨t18, t19, _, _, ["k", "w"], ["x"], rfl, (k19.frz _ _ _ e18), e19, by decide, by decide, fun H20 b20 kk20 bx20 => ?_⟩
  have ls20 := ls19.keep kk20
  have k20 : Kp [S] H19 H20 := kk20.more (fun _ m => nomatch m)
  refine ⟨by show 2 ≤ sizeLine; decide, fun t21 nt21 => ⟨t21, _, upd_same, True.intro, fun od21 => ?_⟩⟩
  obtain ⟨k21, ls21, e21, d21⟩ := newL (L := [S]) (S := S) (D := .list (List.map PyData.str ["n", "m"])) (xs := [.str "n", .str "m"]) od21 nt21 (.cons (.str _) (.cons (.str _) .nil)) rfl
  replace ls21 := ls21 ls20
  generalize upd (upd H20 t21 (.lst [.str "n", .str "m"])) t21 (.frz od21 (.lst [.str "n", .str "m"])) = H21 at k21 ls21 e21 d21 ⊢
  refine ⟨by show 2 ≤ sizeLine; decide, fun t22 nt22 => ⟨t22, _, upd_same, True.intro, fun od22 => ?_⟩⟩
  obtain ⟨k22, ls22, e22, d22⟩ := newL (L := [S]) (S := S) (D := .list (List.map PyData.str ["x", "z"])) (xs := [.str "x", .str "z"]) od22 nt22 (.cons (.str _) (.cons (.str _) .nil)) rfl
  replace ls22 := ls22 ls21
  generalize upd (upd H21 t22 (.lst [.str "x", .str "z"])) t22 (.frz od22 (.lst [.str "x", .str "z"])) = H22 at k22 ls22 e22 d22 ⊢
  refine ⟨t21, t22, _, _, ["n", "m"], ["x", "z"], rfl, (k22.frz _ _ _ e21), e22, by decide, by decide, fun H23 b23 kk23 bx23 => ?_⟩
  have ls23 := ls22.keep kk23
  have k23 : Kp [S] H22 H23 := kk23.more (fun _ m => nomatch m)
  refine ⟨by show 1 ≤ sizeLine; decide, fun t24 nt24 => ⟨t24, _, upd_same, True.intro, fun od24 => ?_⟩⟩
  obtain ⟨k24, ls24, e24, d24⟩ := newL (L := [S]) (S := S) (D := .list (List.map PyData.str ["x"])) (xs := [.str "x"]) od24 nt24 (.cons (.str _) .nil) rfl
  replace ls24 := ls24 ls23
  generalize upd (upd H23 t24 (.lst [.str "x"])) t24 (.frz od24 (.lst [.str "x"])) = H24 at k24 ls24 e24 d24 ⊢
  refine ⟨_, rfl, _, rfl, S, b17, 1, ["n", "m", "x", "c", "y"], rfl, ls24, (bx17.mono ((((((k18.trans k19).trans k20).trans k21).trans k22).trans k23).trans k24)), by decide, by decide, by decide, fun H25 v25 y1 k25 ls25 d25 ly1 gy1 => ?_⟩
  refine ⟨v25, y1, rfl, d25, ly1, fun H26 v26 kk26 d26 => ?_⟩
  have ls26 := ls25.keep kk26
  have k26 : Kp [S] H25 H26 := kk26.more (fun _ m => nomatch m)
  refine ⟨by show 3 ≤ sizeLine; decide, fun t27 nt27 => ?_⟩
  obtain ⟨k27, ls27, d27⟩ := newT (L := [S]) (S := S) (D := hdD ⟨"go", ["x"], begn y1⟩) (xs := [.str "go", .ref t24, v26]) nt27 (.cons (.str _) (.cons (d24.mono (k25.trans k26)) (.cons d26 .nil))) rfl
  replace ls27 := ls27 ls26
  generalize upd H26 t27 (.tup [.str "go", .ref t24, v26]) = H27 at k27 ls27 d27 ⊢
  refine ⟨by show 2 ≤ sizeLine; decide, fun t28 nt28 => ⟨t28, _, upd_same, True.intro, fun od28 => ?_⟩⟩
  obtain ⟨k28, ls28, e28, d28⟩ := newL (L := [S]) (S := S) (D := .list (List.map PyData.str ["x", "z"])) (xs := [.str "x", .str "z"]) od28 nt28 (.cons (.str _) (.cons (.str _) .nil)) rfl
  replace ls28 := ls28 ls27
  generalize upd (upd H27 t28 (.lst [.str "x", .str "z"])) t28 (.frz od28 (.lst [.str "x", .str "z"])) = H28 at k28 ls28 e28 d28 ⊢
  refine ⟨_, rfl, _, rfl, S, b23, 1, ["n", "m", "x", "z", "c", "y"], rfl, ls28, (bx23.mono ((((k24.trans k25).trans k26).trans k27).trans k28)), by decide, by decide, by decide, fun H29 v29 y2 k29 ls29 d29 ly2 gy2 => ?_⟩
  refine ⟨v29, y2, rfl, d29, ly2, fun H30 v30 kk30 d30 => ?_⟩
  have ls30 := ls29.keep kk30
  have k30 : Kp [S] H29 H30 := kk30.more (fun _ m => nomatch m)
  refine ⟨by show 3 ≤ sizeLine; decide, fun t31 nt31 => ?_⟩
  obtain ⟨k31, ls31, d31⟩ := newT (L := [S]) (S := S) (D := hdD ⟨"add", ["x", "z"], begn y2⟩) (xs := [.str "add", .ref t28, v30]) nt31 (.cons (.str _) (.cons (d28.mono (k29.trans k30)) (.cons d30 .nil))) rfl
  replace ls31 := ls31 ls30
  generalize upd H30 t31 (.tup [.str "add", .ref t28, v30]) = H31 at k31 ls31 d31 ⊢
  refine ⟨by show 2 ≤ sizeLine; decide, fun t32 nt32 => ⟨t32, _, upd_same, True.intro, fun od32 => ?_⟩⟩
  obtain ⟨k32, ls32, e32, d32⟩ := newL (L := [S]) (S := S) (D := .list ((shopH y1 y2).map hdD)) (xs := [.ref t27, .ref t31]) od32 nt32 (.cons (d27.mono (((k28.trans k29).trans k30).trans k31)) (.cons d31 .nil)) rfl
  replace ls32 := ls32 ls31
  generalize upd (upd H31 t32 (.lst [.ref t27, .ref t31])) t32 (.frz od32 (.lst [.ref t27, .ref t31])) = H32 at k32 ls32 e32 d32 ⊢
  refine ⟨by show 1 ≤ sizeLine; decide, fun t33 nt33 => ⟨t33, _, upd_same, True.intro, fun od33 => ?_⟩⟩
  obtain ⟨k33, ls33, e33, d33⟩ := newL (L := [S]) (S := S) (D := .list (List.map PyData.str ["x"])) (xs := [.str "x"]) od33 nt33 (.cons (.str _) .nil) rfl
  replace ls33 := ls33 ls32
  generalize upd (upd H32 t33 (.lst [.str "x"])) t33 (.frz od33 (.lst [.str "x"])) = H33 at k33 ls33 e33 d33 ⊢
  refine ⟨_, rfl, _, rfl, S, b20, 1, ["k", "w", "x", "c", "y"], rfl, ls33, (bx20.mono ((((((((((((k21.trans k22).trans k23).trans k24).trans k25).trans k26).trans k27).trans k28).trans k29).trans k30).trans k31).trans k32).trans k33)), by decide, by decide, by decide, fun H34 v34 y3 k34 ls34 d34 ly3 gy3 => ?_⟩
  refine ⟨v34, y3, rfl, d34, ly3, fun H35 v35 kk35 d35 => ?_⟩
  have ls35 := ls34.keep kk35
  have k35 : Kp [S] H34 H35 := kk35.more (fun _ m => nomatch m)
  refine ⟨by show 3 ≤ sizeLine; decide, fun t36 nt36 => ?_⟩
  obtain ⟨k36, ls36, d36⟩ := newT (L := [S]) (S := S) (D := hdD ⟨"back", ["x"], begn y3⟩) (xs := [.str "back", .ref t33, v35]) nt36 (.cons (.str _) (.cons (d33.mono (k34.trans k35)) (.cons d35 .nil))) rfl
  replace ls36 := ls36 ls35
  generalize upd H35 t36 (.tup [.str "back", .ref t33, v35]) = H36 at k36 ls36 d36 ⊢
  refine ⟨by show 1 ≤ sizeLine; decide, fun t37 nt37 => ⟨t37, _, upd_same, True.intro, fun od37 => ?_⟩⟩
  obtain ⟨k37, ls37, e37, d37⟩ := newL (L := [S]) (S := S) (D := .list (List.map PyData.str ["x"])) (xs := [.str "x"]) od37 nt37 (.cons (.str _) .nil) rfl
  replace ls37 := ls37 ls36
  generalize upd (upd H36 t37 (.lst [.str "x"])) t37 (.frz od37 (.lst [.str "x"])) = H37 at k37 ls37 e37 d37 ⊢
  refine ⟨_, rfl, _, rfl, S, b20, 1, ["k", "w", "x", "c", "y"], rfl, ls37, (bx20.mono ((((((((((((((((k21.trans k22).trans k23).trans k24).trans k25).trans k26).trans k27).trans k28).trans k29).trans k30).trans k31).trans k32).trans k33).trans k34).trans k35).trans k36).trans k37)), by decide, by decide, by decide, fun H38 v38 y4 k38 ls38 d38 ly4 gy4 => ?_⟩
  refine ⟨v38, y4, rfl, d38, ly4, fun H39 v39 kk39 d39 => ?_⟩
  have ls39 := ls38.keep kk39
  have k39 : Kp [S] H38 H39 := kk39.more (fun _ m => nomatch m)
  refine ⟨by show 3 ≤ sizeLine; decide, fun t40 nt40 => ?_⟩
  obtain ⟨k40, ls40, d40⟩ := newT (L := [S]) (S := S) (D := hdD ⟨"go", ["x"], begn y4⟩) (xs := [.str "go", .ref t37, v39]) nt40 (.cons (.str _) (.cons (d37.mono (k38.trans k39)) (.cons d39 .nil))) rfl
  replace ls40 := ls40 ls39
  generalize upd H39 t40 (.tup [.str "go", .ref t37, v39]) = H40 at k40 ls40 d40 ⊢
  refine ⟨by show 2 ≤ sizeLine; decide, fun t41 nt41 => ⟨t41, _, upd_same, True.intro, fun od41 => ?_⟩⟩
  obtain ⟨k41, ls41, e41, d41⟩ := newL (L := [S]) (S := S) (D := .list ((helpH y3 y4).map hdD)) (xs := [.ref t36, .ref t40]) od41 nt41 (.cons (d36.mono (((k37.trans k38).trans k39).trans k40)) (.cons d40 .nil)) rfl
  replace ls41 := ls41 ls40
  generalize upd (upd H40 t41 (.lst [.ref t36, .ref t40])) t41 (.frz od41 (.lst [.ref t36, .ref t40])) = H41 at k41 ls41 e41 d41 ⊢
  refine ⟨by show 2 ≤ sizeLine; decide, fun t42 nt42 => ?_⟩
  obtain ⟨k42, ls42, d42⟩ := newT (L := [S]) (S := S) (D := efD ("pay", 1)) (xs := [.str "pay", .int 1]) nt42 (.cons (.str _) (.cons (.int _) .nil)) rfl
  replace ls42 := ls42 ls41
  generalize upd H41 t42 (.tup [.str "pay", .int 1]) = H42 at k42 ls42 d42 ⊢
  refine ⟨by show 1 ≤ sizeLine; decide, fun t43 nt43 => ⟨t43, _, upd_same, True.intro, fun od43 => ?_⟩⟩
  obtain ⟨k43, ls43, e43, d43⟩ := newL (L := [S]) (S := S) (D := .list ([(("pay", 1) : Str × Int)].map efD)) (xs := [.ref t42]) od43 nt43 (.cons d42 .nil) rfl
  replace ls43 := ls43 ls42
  generalize upd (upd H42 t43 (.lst [.ref t42])) t43 (.frz od43 (.lst [.ref t42])) = H43 at k43 ls43 e43 d43 ⊢
  refine ⟨by show 0 ≤ sizeLine; decide, fun t44 nt44 => ⟨t44, _, upd_same, True.intro, fun od44 => ?_⟩⟩
  obtain ⟨k44, ls44, e44, d44⟩ := newL (L := [S]) (S := S) (D := .list (List.map PyData.str ([] : List Str))) (xs := []) od44 nt44 (.nil) rfl
  replace ls44 := ls44 ls43
  generalize upd (upd H43 t44 (.lst [])) t44 (.frz od44 (.lst [])) = H44 at k44 ls44 e44 d44 ⊢
  refine ⟨_, rfl, _, rfl, fun x1 dx1 nx1 ndx1 ne1 => ?_⟩
  have km1 : Kp [] H44 (upd (upd H44 dx1 (.own x1)) x1 (.ins (He.ga K "Actor") dx1 [])) := (Kp.refl.new ndx1).own nx1
  refine ⟨x1, dx1, shopA j0 y1 y2, t44, t8, t32, _, _, _, rfl, upd_same, fun Ha ka => ⟨.inl (.inr ⟨_, ka.frz _ _ _ (km1.frz _ _ _ e44)⟩), .inl (.inr ⟨_, ka.frz _ _ _ (km1.frz _ _ _ ((((((((((((((((((((((((((((((((((((k9.trans k10).trans k11).trans k12).trans k13).trans k14).trans k15).trans k16).trans k17).trans k18).trans k19).trans k20).trans k21).trans k22).trans k23).trans k24).trans k25).trans k26).trans k27).trans k28).trans k29).trans k30).trans k31).trans k32).trans k33).trans k34).trans k35).trans k36).trans k37).trans k38).trans k39).trans k40).trans k41).trans k42).trans k43).trans k44).frz _ _ _ e8))⟩), .inl (.inr ⟨_, ka.frz _ _ _ (km1.frz _ _ _ ((((((((((((k33.trans k34).trans k35).trans k36).trans k37).trans k38).trans k39).trans k40).trans k41).trans k42).trans k43).trans k44).frz _ _ _ e32))⟩)⟩, ((Di.dl d44 e44).mono km1), ((Di.dl (d8.mono (((((((((((((((((((((((((((((((((((k9.trans k10).trans k11).trans k12).trans k13).trans k14).trans k15).trans k16).trans k17).trans k18).trans k19).trans k20).trans k21).trans k22).trans k23).trans k24).trans k25).trans k26).trans k27).trans k28).trans k29).trans k30).trans k31).trans k32).trans k33).trans k34).trans k35).trans k36).trans k37).trans k38).trans k39).trans k40).trans k41).trans k42).trans k43).trans k44)) ((((((((((((((((((((((((((((((((((((k9.trans k10).trans k11).trans k12).trans k13).trans k14).trans k15).trans k16).trans k17).trans k18).trans k19).trans k20).trans k21).trans k22).trans k23).trans k24).trans k25).trans k26).trans k27).trans k28).trans k29).trans k30).trans k31).trans k32).trans k33).trans k34).trans k35).trans k36).trans k37).trans k38).trans k39).trans k40).trans k41).trans k42).trans k43).trans k44).frz _ _ _ e8)).mono km1), ((Di.dl (d32.mono (((((((((((k33.trans k34).trans k35).trans k36).trans k37).trans k38).trans k39).trans k40).trans k41).trans k42).trans k43).trans k44)) ((((((((((((k33.trans k34).trans k35).trans k36).trans k37).trans k38).trans k39).trans k40).trans k41).trans k42).trans k43).trans k44).frz _ _ _ e32)).mono km1), fun Ha1 vp vt vh ka1 eo1 dp dt dh => ⟨rfl, x1, _, eo1, True.intro, fun oo1 => ?_⟩⟩
  have kz1 : Kp [] H44 (upd Ha1 x1 (.frz oo1 (.ins (He.ga K "Actor") dx1 [("name", .str (shopA j0 y1 y2).nam), ("parameters", vp), ("states", vt), ("handlers", vh)]))) := (km1.sub ka1 fun a m => .inr (by rw [List.mem_singleton.mp m]; exact nx1)).own nx1
  have ls45 := ls44.keep kz1
  have k45 : Kp [S] H44 (upd Ha1 x1 (.frz oo1 (.ins (He.ga K "Actor") dx1 [("name", .str (shopA j0 y1 y2).nam), ("parameters", vp), ("states", vt), ("handlers", vh)]))) := kz1.more (fun _ m => nomatch m)
  have kf1 : Kp [x1] Ha1 (upd Ha1 x1 (.frz oo1 (.ins (He.ga K "Actor") dx1 [("name", .str (shopA j0 y1 y2).nam), ("parameters", vp), ("states", vt), ("handlers", vh)]))) := Kp.refl.wr (by simp) eo1
  have ac45 : ActAt K (upd Ha1 x1 (.frz oo1 (.ins (He.ga K "Actor") dx1 [("name", .str (shopA j0 y1 y2).nam), ("parameters", vp), ("states", vt), ("handlers", vh)]))) (.ref x1) (shopA j0 y1 y2) := ⟨x1, oo1, dx1, vp, vt, vh, rfl, upd_same, dp.mono kf1, dt.mono kf1, dh.mono kf1⟩
  clear kf1 kz1
  generalize upd Ha1 x1 (.frz oo1 (.ins (He.ga K "Actor") dx1 [("name", .str (shopA j0 y1 y2).nam), ("parameters", vp), ("states", vt), ("handlers", vh)])) = H45 at k45 ls45 ac45 ⊢
  refine ⟨by show 1 ≤ sizeLine; decide, fun t46 nt46 => ⟨t46, _, upd_same, True.intro, fun od46 => ?_⟩⟩
  obtain ⟨k46, ls46, e46, d46⟩ := newL (L := [S]) (S := S) (D := .list (List.map PyData.str (["p"] : List Str))) (xs := [.str "p"]) od46 nt46 (.cons (.str _) .nil) rfl
  replace ls46 := ls46 ls45
  generalize upd (upd H45 t46 (.lst [.str "p"])) t46 (.frz od46 (.lst [.str "p"])) = H46 at k46 ls46 e46 d46 ⊢
  refine ⟨_, rfl, _, rfl, fun x2 dx2 nx2 ndx2 ne2 => ?_⟩
  have km2 : Kp [] H46 (upd (upd H46 dx2 (.own x2)) x2 (.ins (He.ga K "Actor") dx2 [])) := (Kp.refl.new ndx2).own nx2
  refine ⟨x2, dx2, helpA e0 y3 y4, t46, t14, t41, _, _, _, rfl, upd_same, fun Ha ka => ⟨.inl (.inr ⟨_, ka.frz _ _ _ (km2.frz _ _ _ e46)⟩), .inl (.inr ⟨_, ka.frz _ _ _ (km2.frz _ _ _ ((((((((((((((((((((((((((((((((k15.trans k16).trans k17).trans k18).trans k19).trans k20).trans k21).trans k22).trans k23).trans k24).trans k25).trans k26).trans k27).trans k28).trans k29).trans k30).trans k31).trans k32).trans k33).trans k34).trans k35).trans k36).trans k37).trans k38).trans k39).trans k40).trans k41).trans k42).trans k43).trans k44).trans k45).trans k46).frz _ _ _ e14))⟩), .inl (.inr ⟨_, ka.frz _ _ _ (km2.frz _ _ _ (((((k42.trans k43).trans k44).trans k45).trans k46).frz _ _ _ e41))⟩)⟩, ((Di.dl d46 e46).mono km2), ((Di.dl (d14.mono (((((((((((((((((((((((((((((((k15.trans k16).trans k17).trans k18).trans k19).trans k20).trans k21).trans k22).trans k23).trans k24).trans k25).trans k26).trans k27).trans k28).trans k29).trans k30).trans k31).trans k32).trans k33).trans k34).trans k35).trans k36).trans k37).trans k38).trans k39).trans k40).trans k41).trans k42).trans k43).trans k44).trans k45).trans k46)) ((((((((((((((((((((((((((((((((k15.trans k16).trans k17).trans k18).trans k19).trans k20).trans k21).trans k22).trans k23).trans k24).trans k25).trans k26).trans k27).trans k28).trans k29).trans k30).trans k31).trans k32).trans k33).trans k34).trans k35).trans k36).trans k37).trans k38).trans k39).trans k40).trans k41).trans k42).trans k43).trans k44).trans k45).trans k46).frz _ _ _ e14)).mono km2), ((Di.dl (d41.mono ((((k42.trans k43).trans k44).trans k45).trans k46)) (((((k42.trans k43).trans k44).trans k45).trans k46).frz _ _ _ e41)).mono km2), fun Ha2 vp vt vh ka2 eo2 dp dt dh => ⟨rfl, x2, _, eo2, True.intro, fun oo2 => ?_⟩⟩
  have kz2 : Kp [] H46 (upd Ha2 x2 (.frz oo2 (.ins (He.ga K "Actor") dx2 [("name", .str (helpA e0 y3 y4).nam), ("parameters", vp), ("states", vt), ("handlers", vh)]))) := (km2.sub ka2 fun a m => .inr (by rw [List.mem_singleton.mp m]; exact nx2)).own nx2
  have ls47 := ls46.keep kz2
  have k47 : Kp [S] H46 (upd Ha2 x2 (.frz oo2 (.ins (He.ga K "Actor") dx2 [("name", .str (helpA e0 y3 y4).nam), ("parameters", vp), ("states", vt), ("handlers", vh)]))) := kz2.more (fun _ m => nomatch m)
  have kf2 : Kp [x2] Ha2 (upd Ha2 x2 (.frz oo2 (.ins (He.ga K "Actor") dx2 [("name", .str (helpA e0 y3 y4).nam), ("parameters", vp), ("states", vt), ("handlers", vh)]))) := Kp.refl.wr (by simp) eo2
  have ac47 : ActAt K (upd Ha2 x2 (.frz oo2 (.ins (He.ga K "Actor") dx2 [("name", .str (helpA e0 y3 y4).nam), ("parameters", vp), ("states", vt), ("handlers", vh)]))) (.ref x2) (helpA e0 y3 y4) := ⟨x2, oo2, dx2, vp, vt, vh, rfl, upd_same, dp.mono kf2, dt.mono kf2, dh.mono kf2⟩
  clear kf2 kz2
  generalize upd Ha2 x2 (.frz oo2 (.ins (He.ga K "Actor") dx2 [("name", .str (helpA e0 y3 y4).nam), ("parameters", vp), ("states", vt), ("handlers", vh)])) = H47 at k47 ls47 ac47 ⊢
  refine ⟨by show 2 ≤ sizeLine; decide, fun la nla => ⟨la, _, upd_same, True.intro, fun oa => ?_⟩⟩
  have kz : Kp [] H47 (upd (upd H47 la (.lst [.ref x1, .ref x2])) la (.frz oa (.lst [.ref x1, .ref x2]))) := (Kp.refl.new nla).own nla
  have ls48 := ls47.keep kz
  have k48 : Kp [S] H47 (upd (upd H47 la (.lst [.ref x1, .ref x2])) la (.frz oa (.lst [.ref x1, .ref x2]))) := kz.more (fun _ m => nomatch m)
  have ela : (upd (upd H47 la (.lst [.ref x1, .ref x2])) la (.frz oa (.lst [.ref x1, .ref x2]))) la = some (.frz oa (.lst [.ref x1, .ref x2])) := upd_same
  clear kz
  generalize upd (upd H47 la (.lst [.ref x1, .ref x2])) la (.frz oa (.lst [.ref x1, .ref x2])) = H48 at k48 ls48 ela ⊢
  intro xp dxp nxp ndxp nep
  have km : Kp [] H48 (upd (upd H48 dxp (.own xp)) xp (.ins (He.ga K "Program") dxp [])) := (Kp.refl.new ndxp).own nxp
  refine ⟨xp, dxp, prgL j0 e0 y1 y2 y3 y4, t43, la, _, _, rfl, upd_same, fun Ha ka => ⟨.inl (.inr ⟨_, ka.frz _ _ _ (km.frz _ _ _ (((((k44.trans k45).trans k46).trans k47).trans k48).frz _ _ _ e43))⟩), .inl (.inr ⟨_, ka.frz _ _ _ (km.frz _ _ _ ela)⟩)⟩, (Di.dl (d43.mono ((((k44.trans k45).trans k46).trans k47).trans k48)) (((((k44.trans k45).trans k46).trans k47).trans k48).frz _ _ _ e43)).mono km, ⟨(ac45.mono ((k46.trans k47).trans k48)).mono km, (ac47.mono k48).mono km, trivial⟩, fun Ha ve l ol xs ka eo el as de => ⟨rfl, xp, _, eo, True.intro, fun op => ?_⟩⟩
  have kz : Kp [] H48 (upd Ha xp (.frz op (.ins (He.ga K "Program") dxp [("effects", ve), ("actors", .ref l)]))) := (km.sub ka fun a m => .inr (by rw [List.mem_singleton.mp m]; exact nxp)).own nxp
  have kf : Kp [xp] Ha (upd Ha xp (.frz op (.ins (He.ga K "Program") dxp [("effects", ve), ("actors", .ref l)]))) := Kp.refl.wr (by simp) eo
  have ok : PrgL j0 e0 y1 y2 y3 y4 := ⟨⟨al0, by have : e0.dep ≤ 1 := dep0; omega⟩, gy1, ly1, gy2, ly2, gy3, ly3, gy4, ly4⟩
  exact q _ (.ref xp) (prgL j0 e0 y1 y2 y3 y4) _ _ ((((((((((((((((((((((((((((((((((((((((((((((((k1.trans k2).trans k3).trans k4).trans k5).trans k6).trans k7).trans k8).trans k9).trans k10).trans k11).trans k12).trans k13).trans k14).trans k15).trans k16).trans k17).trans k18).trans k19).trans k20).trans k21).trans k22).trans k23).trans k24).trans k25).trans k26).trans k27).trans k28).trans k29).trans k30).trans k31).trans k32).trans k33).trans k34).trans k35).trans k36).trans k37).trans k38).trans k39).trans k40).trans k41).trans k42).trans k43).trans k44).trans k45).trans k46).trans k47).trans k48).then0 kz) (ls48.keep kz) ⟨xp, op, dxp, ve, l, ol, xs, rfl, upd_same, kf.frz _ _ _ el, as.mono kf, de.mono kf⟩ ok.ok ok.fst (by show 2 ≤ 100; decide)

end
end Rk
/-! the law: its events. -/
namespace Rk
open PySem PySem.Spec PyProof.Rows L2
def evL : List (Str × Nat) := [("go", 1), ("add", 2), ("back", 1), ("go", 1), ("add", 2), ("go", 2)]
section
variable {K : PySem.W.Frag} {mg : Str → Option Value} {P : Program} {w : World} {base : Heap}
def spEv (K : PySem.W.Frag) : Sp := fun vs H Q _ => ∃ S w0 p0 L, ∃ es : List (Addr × List Int), vs = [.ref S, .int w0, .int p0, .ref L] ∧ LsAt H S ∧ 0 ≤ w0 ∧ w0 < 1000000 ∧ 0 ≤ p0 ∧ p0 < 1000000 ∧ (∀ Ha, Kp [S] H Ha → SqL K Ha L (es.map fun e => V.ref e.1)) ∧
  (∀ e ∈ es, H e.1 = some (.tup (e.2.map V.int))) ∧ 0 < es.length ∧ es.length < 1000000 ∧ ∀ Ha u ev, Kp [S] H Ha → LsAt Ha S → Di Ha u (evD ev) → EvtOk ev → Q u Ha
theorem ok_law_event (T : Tx K mg) : FnOk P w K mg base (L2N.CX P w) 2 (He.ga K "_law_event") T.fd_law_event P_law_event (spEv K) := by
  refine T.D_law_event.ok sc_law_event (fun vs H Q E h => by obtain ⟨S, w0, p0, L, es, rfl, _⟩ := h; rfl) fun cdv A outer s H vs Q E hr h => ⟨_, (pss_cons (ps_set (i := 4) sc_law_event.nd rfl (.inl rfl) (pe_call (ok_law_draw T) hr rfl T.g__law_draw T.p_law_draw T.b_law_draw .nil pass0 (pa_cons (pv 0) (pa_cons pe_int pa_nil))))
    (pss_cons (ps_if (PW.pt (pw_and (pt_cmpR op_lt (pv 4) pe_int (nomark _)) (pw_and1 (pt_cmpR op_gt (pv 1) pe_int (nomark _)))))
    (pss_one (ps_ret (pe_tup (pa_cons pe_str (pa_cons (pe_call (ok_law_draw T) hr rfl T.g__law_draw T.p_law_draw T.b_law_draw .nil pass0 (pa_cons (pv 0) (pa_cons (pv 1) pa_nil))) pa_nil)))))
    pss_nil)
    (pss_cons (ps_if (PW.pt (pw_and (pt_cmpR op_lt (pv 4) pe_int (nomark _)) (pw_and1 (pt_cmpR op_gt (pv 2) pe_int (nomark _)))))
    (pss_one (ps_ret (pe_tup (pa_cons pe_str (pa_cons (pe_call (ok_law_draw T) hr rfl T.g__law_draw T.p_law_draw T.b_law_draw .nil pass0 (pa_cons (pv 0) (pa_cons (pv 2) pa_nil))) (pa_cons (pe_op op_sub (pe_call (ok_law_draw T) hr rfl T.g__law_draw T.p_law_draw T.b_law_draw .nil pass0 (pa_cons (pv 0) (pa_cons pe_int pa_nil))) pe_int) pa_nil))))))
    pss_nil)
    (pss_cons (ps_if (pt_cmpR op_eq (pv 4) pe_int (nomark _))
    (pss_one (ps_ret (pe_ix ix_list (pe_fz (pe_lst (pa_cons (pe_tup (pa_cons pe_str (pa_cons (pv 1) pa_nil))) (pa_cons (pe_tup (pa_cons pe_str (pa_cons (pv 2) (pa_cons pe_int pa_nil)))) (pa_cons (pe_tup (pa_cons pe_str (pa_cons (pe_un un_neg pe_int) pa_nil))) (pa_cons (pe_tup (pa_cons pe_str (pa_cons pe_int (pa_cons pe_int pa_nil)))) pa_nil)))))) (pe_call (ok_law_draw T) hr rfl T.g__law_draw T.p_law_draw T.b_law_draw .nil pass0 (pa_cons (pv 0) (pa_cons pe_int pa_nil))) (fun _ _ => rfl))))
    pss_nil)
    (pss_cons (ps_set (i := 5) sc_law_event.nd rfl (.inl rfl) (pe_ix ix_list (pv 3) (pe_call (ok_law_draw T) hr rfl T.g__law_draw T.p_law_draw T.b_law_draw .nil pass0 (pa_cons (pv 0) (pa_cons (pe_callB call_len_seq (by rfl) T.f_len (by decide +kernel) (pa_cons (pv 3) pa_nil)) pa_nil))) (fun _ _ => rfl)))
    (Evl.pss_cut (ps_if (pt_cmpR op_eq (pv 4) pe_int (nomark _))
    (pss_one (ps_set (i := 5) sc_law_event.nd rfl (.inl rfl) (pe_ix ix_list (pe_fz (pe_lst (pa_cons (pe_tup (pa_cons pe_int (pa_cons pe_int pa_nil))) (pa_cons (pe_tup (pa_cons pe_int pa_nil)) (pa_cons (pe_tup pa_nil) pa_nil))))) (pe_call (ok_law_draw T) hr rfl T.g__law_draw T.p_law_draw T.b_law_draw .nil pass0 (pa_cons (pv 0) (pa_cons pe_int pa_nil))) (fun _ _ => rfl))))
    pss_nil)
    (pss_cons (ps_asg (pe_ix ix_list (pe_fz (pe_lst (pa_cons (pe_tup (pa_cons pe_str (pa_cons pe_int pa_nil))) (pa_cons (pe_tup (pa_cons pe_str (pa_cons pe_int pa_nil))) (pa_cons (pe_tup (pa_cons pe_str (pa_cons pe_int pa_nil))) (pa_cons (pe_tup (pa_cons pe_str (pa_cons pe_int pa_nil))) (pa_cons (pe_tup (pa_cons pe_str (pa_cons pe_int pa_nil))) (pa_cons (pe_tup (pa_cons pe_str (pa_cons pe_int pa_nil))) pa_nil)))))))) (pe_call (ok_law_draw T) hr rfl T.g__law_draw T.p_law_draw T.b_law_draw .nil pass0 (pa_cons (pv 0) (pa_cons pe_int pa_nil))) (fun _ _ => rfl)) (pg_tup rfl (pgs_cons (pg_name (i := 6) sc_law_event.nd rfl (.inl rfl)) (pgs_cons (pg_name (i := 7) sc_law_event.nd rfl (.inl rfl)) pgs_nil))))
    (pss_one (ps_ret (pe_tup (pa_cons pe_str (pa_cons (pv 5) (pa_cons (pv 6) (pa_cons (pe_callTy call_tuple_of (by rfl) T.f_tuple (by decide +kernel) (pa_cons (pe_lc (own := [("_law_turn", 8)]) rfl sc_law_event.nd (pi_range1 rfl T.f_range (pa_cons (pv 7) pa_nil)) (blkOk_by (own := [("_law_turn", 8)]) (N := N_law_event) (sc := defScope s_law_event) (by decide +kernel)) (fun _ _ _ _ _ => (pg_name (i := 8) sc_law_event.nd rfl (.inl rfl))) (fun _ _ _ _ _ => pts_nil) (fun _ _ _ _ _ => (pe_op op_sub (pe_call (ok_law_draw T) hr rfl T.g__law_draw T.p_law_draw T.b_law_draw .nil pass0 (pa_cons (pv 0) (pa_cons pe_int pa_nil))) pe_int))) pa_nil)) pa_nil)))))))))))))), ?_⟩
  obtain ⟨S, w0, p0, L, es, rfl, ls, w1, w2, p1, p2, hL, ht, e0, e1, q⟩ := h
  refine ⟨_, rfl, S, 12, rfl, ls, by decide, by decide, fun H1 pk kp1 ls1 _ _ => ?_⟩
  refine ⟨_, rfl, _, _, rfl, rfl, _, rfl, iAn ?_ fun _ hB => ⟨_, rfl, _, _, rfl, rfl, _, rfl, iAn hB fun c _ => ?_⟩⟩
  rotate_left
  · have wpos : 0 < w0 := of_decide_eq_true c
    exact ⟨_, rfl, _, rfl, S, w0, rfl, ls1, wpos, w2, fun H2 j k2 ls2 j0 j1 => ⟨by show 2 ≤ sizeLine; decide, fun t nt => q _ _ (.deliver j) ((kp1.trans k2).new nt) (ls2.new nt) (.tup upd_same (.cons (.str _) (.cons (.int _) .nil))) trivial⟩⟩
  refine ⟨_, rfl, _, _, rfl, rfl, _, rfl, iAn ?_ fun _ hB => ⟨_, rfl, _, _, rfl, rfl, _, rfl, iAn hB fun c _ => ?_⟩⟩
  rotate_left
  · have ppos : 0 < p0 := of_decide_eq_true c
    exact ⟨_, rfl, _, rfl, S, p0, rfl, ls1, ppos, p2, fun H2 j k2 ls2 j0 j1 => ⟨_, rfl, S, 5, rfl, ls2, by decide, by decide, fun H3 i k3 ls3 _ _ => ⟨_, _, rfl, rfl, by show 3 ≤ sizeLine; decide, fun t nt => q _ _ (.answer j (i - 1)) (((kp1.trans k2).trans k3).new nt) (ls3.new nt) (.tup upd_same (.cons (.str _) (.cons (.int _) (.cons (.int _) .nil)))) trivial⟩⟩⟩
  refine ⟨_, rfl, rfl, _, rfl, iE (fun _ => ?_) fun _ => ?_⟩
  ·
    refine ⟨_, rfl, by show 2 ≤ sizeLine; decide, fun t21 nt21 => ?_⟩
    obtain ⟨k21, ls21, d21⟩ := newT (L := [S]) (S := S) (D := evD (.deliver w0)) (xs := [.str "deliver", .int w0]) nt21 (.cons (.str _) (.cons (.int _) .nil)) rfl
    replace ls21 := ls21 ls1
    generalize upd H1 t21 (.tup [.str "deliver", .int w0]) = H21 at k21 ls21 d21 ⊢
    refine ⟨_, rfl, by show 3 ≤ sizeLine; decide, fun t22 nt22 => ?_⟩
    obtain ⟨k22, ls22, d22⟩ := newT (L := [S]) (S := S) (D := evD (.answer p0 1)) (xs := [.str "answer", .int p0, .int 1]) nt22 (.cons (.str _) (.cons (.int _) (.cons (.int _) .nil))) rfl
    replace ls22 := ls22 ls21
    generalize upd H21 t22 (.tup [.str "answer", .int p0, .int 1]) = H22 at k22 ls22 d22 ⊢
    refine ⟨_, rfl, by show 2 ≤ sizeLine; decide, fun t23 nt23 => ?_⟩
    obtain ⟨k23, ls23, d23⟩ := newT (L := [S]) (S := S) (D := evD (.deliver (-1))) (xs := [.str "deliver", .int (-1)]) nt23 (.cons (.str _) (.cons (.int _) .nil)) rfl
    replace ls23 := ls23 ls22
    generalize upd H22 t23 (.tup [.str "deliver", .int (-1)]) = H23 at k23 ls23 d23 ⊢
    refine ⟨by show 3 ≤ sizeLine; decide, fun t24 nt24 => ?_⟩
    obtain ⟨k24, ls24, d24⟩ := newT (L := [S]) (S := S) (D := evD (.answer 0 1000000001)) (xs := [.str "answer", .int 0, .int 1000000001]) nt24 (.cons (.str _) (.cons (.int _) (.cons (.int _) .nil))) rfl
    replace ls24 := ls24 ls23
    generalize upd H23 t24 (.tup [.str "answer", .int 0, .int 1000000001]) = H24 at k24 ls24 d24 ⊢
    refine ⟨by show 4 ≤ sizeLine; decide, fun t25 nt25 => ⟨t25, _, upd_same, True.intro, fun od25 => ?_⟩⟩
    obtain ⟨k25, ls25, e25, d25⟩ := newL (L := [S]) (S := S) (D := .list [evD (.deliver w0), evD (.answer p0 1), evD (.deliver (-1)), evD (.answer 0 1000000001)]) (xs := [.ref t21, .ref t22, .ref t23, .ref t24]) od25 nt25 (.cons (d21.mono ((k22.trans k23).trans k24)) (.cons (d22.mono (k23.trans k24)) (.cons (d23.mono k24) (.cons d24 .nil)))) rfl
    replace ls25 := ls25 ls24
    generalize upd (upd H24 t25 (.lst [.ref t21, .ref t22, .ref t23, .ref t24])) t25 (.frz od25 (.lst [.ref t21, .ref t22, .ref t23, .ref t24])) = H25 at k25 ls25 e25 d25 ⊢
    refine ⟨_, rfl, S, 4, rfl, ls25, by decide, by decide, fun H26 j k26 ls26 j0 j1 => ?_⟩
    obtain ⟨v, av, mv⟩ := pick (xs := [.ref t21, .ref t22, .ref t23, .ref t24]) j0 j1
    refine ⟨t25, _, j, v, rfl, rfl, .inl (.inr ⟨_, (k26.frz _ _ _ e25)⟩), av, ?_⟩
    simp only [List.mem_cons, List.not_mem_nil, or_false] at mv
    have kk := kp1.trans (((((k21.trans k22).trans k23).trans k24).trans k25).trans k26)
    rcases mv with rfl | rfl | rfl | rfl
    · exact q _ _ (.deliver w0) kk ls26 (d21.mono ((((k22.trans k23).trans k24).trans k25).trans k26)) trivial
    · exact q _ _ (.answer p0 1) kk ls26 (d22.mono (((k23.trans k24).trans k25).trans k26)) trivial
    · exact q _ _ (.deliver (-1)) kk ls26 (d23.mono ((k24.trans k25).trans k26)) trivial
    · exact q _ _ (.answer 0 1000000001) kk ls26 (d24.mono (k25.trans k26)) trivial

  refine ⟨_, rfl, _, rfl, _, rfl, L, _, rfl, .inl (hL _ kp1), S, _, rfl, ls1, by rw [List.length_map]; omega, by rw [List.length_map]; omega, fun H2 j kp2 ls2 j0 j1 => ?_⟩
  obtain ⟨v, av, mv⟩ := pick j0 j1
  obtain ⟨⟨pa, pth0⟩, me, rfl⟩ := List.mem_map.mp mv
  have epa : H2 pa = some (.tup (pth0.map V.int)) := kp2.tup _ _ (kp1.tup _ _ (ht _ me))
  have dpa : Di H2 (.ref pa) (inD pth0) := .tup epa (Dl.ints pth0)
  refine ⟨L, _, j, _, rfl, rfl, hL _ (kp1.trans kp2), av, ?_⟩
  refine ⟨fun σ Hb => ∃ a p, σ = [some (.ref S), some (.int w0), some (.int p0), some (.ref L), some (.int pk), some a, none, none, none] ∧ Kp [S] H Hb ∧ LsAt Hb S ∧ Di Hb a (inD p), ?_, ?_⟩
  · refine ⟨_, rfl, rfl, _, rfl, iE (fun _ => ?_) fun _ => ⟨.ref pa, pth0, rfl, kp1.trans kp2, ls2, dpa⟩⟩
    refine ⟨by show 2 ≤ sizeLine; decide, fun t21 nt21 => ?_⟩
    obtain ⟨k21, ls21, d21⟩ := newT (L := [S]) (S := S) (D := inD [0, 7]) (xs := [.int 0, .int 7]) nt21 (.cons (.int _) (.cons (.int _) .nil)) rfl
    replace ls21 := ls21 ls2
    generalize upd H2 t21 (.tup [.int 0, .int 7]) = H21 at k21 ls21 d21 ⊢
    refine ⟨by show 1 ≤ sizeLine; decide, fun t22 nt22 => ?_⟩
    obtain ⟨k22, ls22, d22⟩ := newT (L := [S]) (S := S) (D := inD [9]) (xs := [.int 9]) nt22 (.cons (.int _) .nil) rfl
    replace ls22 := ls22 ls21
    generalize upd H21 t22 (.tup [.int 9]) = H22 at k22 ls22 d22 ⊢
    refine ⟨by show 0 ≤ sizeLine; decide, fun t23 nt23 => ?_⟩
    obtain ⟨k23, ls23, d23⟩ := newT (L := [S]) (S := S) (D := inD []) (xs := []) nt23 (.nil) rfl
    replace ls23 := ls23 ls22
    generalize upd H22 t23 (.tup []) = H23 at k23 ls23 d23 ⊢
    refine ⟨by show 3 ≤ sizeLine; decide, fun t24 nt24 => ⟨t24, _, upd_same, True.intro, fun od24 => ?_⟩⟩
    obtain ⟨k24, ls24, e24, d24⟩ := newL (L := [S]) (S := S) (D := .list [inD [0, 7], inD [9], inD []]) (xs := [.ref t21, .ref t22, .ref t23]) od24 nt24 (.cons (d21.mono (k22.trans k23)) (.cons (d22.mono k23) (.cons d23 .nil))) rfl
    replace ls24 := ls24 ls23
    generalize upd (upd H23 t24 (.lst [.ref t21, .ref t22, .ref t23])) t24 (.frz od24 (.lst [.ref t21, .ref t22, .ref t23])) = H24 at k24 ls24 e24 d24 ⊢
    refine ⟨_, rfl, S, 3, rfl, ls24, by decide, by decide, fun H25 i k25 ls25 i0 i1 => ?_⟩
    obtain ⟨v, av, mv⟩ := pick (xs := [.ref t21, .ref t22, .ref t23]) i0 i1
    refine ⟨t24, _, i, v, rfl, rfl, .inl (.inr ⟨_, (k25.frz _ _ _ e24)⟩), av, ?_⟩
    simp only [List.mem_cons, List.not_mem_nil, or_false] at mv
    have kk := (kp1.trans kp2).trans ((((k21.trans k22).trans k23).trans k24).trans k25)
    have z1 := (d21.mono (((k22.trans k23).trans k24).trans k25))
    have z2 := (d22.mono ((k23.trans k24).trans k25))
    have z3 := (d23.mono (k24.trans k25))
    rcases mv with rfl | rfl | rfl
    · exact ⟨_, _, rfl, kk, ls25, z1⟩
    · exact ⟨_, _, rfl, kk, ls25, z2⟩
    · exact ⟨_, _, rfl, kk, ls25, z3⟩

  · rintro σ H3 ⟨a, pth, eσ, kp3, ls3, dp⟩
    subst eσ
    refine ⟨by show 2 ≤ sizeLine; decide, fun t21 nt21 => ?_⟩
    obtain ⟨k21, ls21, d21⟩ := newT (L := [S]) (S := S) (D := rowD ("go", 1)) (xs := [.str "go", .int 1]) nt21 (.cons (.str _) (.cons (.int _) .nil)) rfl
    replace ls21 := ls21 ls3
    generalize upd H3 t21 (.tup [.str "go", .int 1]) = H21 at k21 ls21 d21 ⊢
    refine ⟨by show 2 ≤ sizeLine; decide, fun t22 nt22 => ?_⟩
    obtain ⟨k22, ls22, d22⟩ := newT (L := [S]) (S := S) (D := rowD ("add", 2)) (xs := [.str "add", .int 2]) nt22 (.cons (.str _) (.cons (.int _) .nil)) rfl
    replace ls22 := ls22 ls21
    generalize upd H21 t22 (.tup [.str "add", .int 2]) = H22 at k22 ls22 d22 ⊢
    refine ⟨by show 2 ≤ sizeLine; decide, fun t23 nt23 => ?_⟩
    obtain ⟨k23, ls23, d23⟩ := newT (L := [S]) (S := S) (D := rowD ("back", 1)) (xs := [.str "back", .int 1]) nt23 (.cons (.str _) (.cons (.int _) .nil)) rfl
    replace ls23 := ls23 ls22
    generalize upd H22 t23 (.tup [.str "back", .int 1]) = H23 at k23 ls23 d23 ⊢
    refine ⟨by show 2 ≤ sizeLine; decide, fun t24 nt24 => ?_⟩
    obtain ⟨k24, ls24, d24⟩ := newT (L := [S]) (S := S) (D := rowD ("go", 1)) (xs := [.str "go", .int 1]) nt24 (.cons (.str _) (.cons (.int _) .nil)) rfl
    replace ls24 := ls24 ls23
    generalize upd H23 t24 (.tup [.str "go", .int 1]) = H24 at k24 ls24 d24 ⊢
    refine ⟨by show 2 ≤ sizeLine; decide, fun t25 nt25 => ?_⟩
    obtain ⟨k25, ls25, d25⟩ := newT (L := [S]) (S := S) (D := rowD ("add", 2)) (xs := [.str "add", .int 2]) nt25 (.cons (.str _) (.cons (.int _) .nil)) rfl
    replace ls25 := ls25 ls24
    generalize upd H24 t25 (.tup [.str "add", .int 2]) = H25 at k25 ls25 d25 ⊢
    refine ⟨by show 2 ≤ sizeLine; decide, fun t26 nt26 => ?_⟩
    obtain ⟨k26, ls26, d26⟩ := newT (L := [S]) (S := S) (D := rowD ("go", 2)) (xs := [.str "go", .int 2]) nt26 (.cons (.str _) (.cons (.int _) .nil)) rfl
    replace ls26 := ls26 ls25
    generalize upd H25 t26 (.tup [.str "go", .int 2]) = H26 at k26 ls26 d26 ⊢
    refine ⟨by show 6 ≤ sizeLine; decide, fun t27 nt27 => ⟨t27, _, upd_same, True.intro, fun od27 => ?_⟩⟩
    obtain ⟨k27, ls27, e27, d27⟩ := newL (L := [S]) (S := S) (D := .list (evL.map rowD)) (xs := [.ref t21, .ref t22, .ref t23, .ref t24, .ref t25, .ref t26]) od27 nt27 (.cons (d21.mono ((((k22.trans k23).trans k24).trans k25).trans k26)) (.cons (d22.mono (((k23.trans k24).trans k25).trans k26)) (.cons (d23.mono ((k24.trans k25).trans k26)) (.cons (d24.mono (k25.trans k26)) (.cons (d25.mono k26) (.cons d26 .nil)))))) rfl
    replace ls27 := ls27 ls26
    generalize upd (upd H26 t27 (.lst [.ref t21, .ref t22, .ref t23, .ref t24, .ref t25, .ref t26])) t27 (.frz od27 (.lst [.ref t21, .ref t22, .ref t23, .ref t24, .ref t25, .ref t26])) = H27 at k27 ls27 e27 d27 ⊢
    refine ⟨_, rfl, S, 6, rfl, ls27, by decide, by decide, fun H28 i k28 ls28 i0 i1 => ?_⟩
    have dl := Di.dl (d27.mono k28) (k28.frz _ _ _ e27)
    obtain ⟨v, av, mv⟩ := pick (xs := [.ref t21, .ref t22, .ref t23, .ref t24, .ref t25, .ref t26]) i0 i1
    obtain ⟨tp, msg, c, rfl, etp, hc⟩ := row_pick (ds := evL) dl mv
    have hc2 : c ≤ 2 := by
      simp only [evL, List.mem_cons, List.not_mem_nil, or_false, Prod.mk.injEq] at hc
      omega
    have dpt := (dp.mono (((((((k21.trans k22).trans k23).trans k24).trans k25).trans k26).trans k27).trans k28))
    have kk := kp3.trans (((((((k21.trans k22).trans k23).trans k24).trans k25).trans k26).trans k27).trans k28)
    have lsz := ls28
    refine ⟨t27, _, i, _, rfl, rfl, .inl (.inr ⟨_, (k28.frz _ _ _ e27)⟩), av, tp, _, rfl, SqT.of etp, rfl, _, _, rfl, _, _, rfl, rfl, ?_⟩
    clear dl mv av
    generalize H28 = Hh at dpt kk lsz ⊢
    refine ⟨_, rfl, _, rfl, _, rfl, c, rfl, by omega, by omega, fun D nD => lc_range (lo := 0) (n := c) (fun i Hc => ∃ is : List Int, Kp [S] Hh Hc ∧ LsAt Hc S ∧ Hc D = some (.lst (is.map V.int)) ∧ is.length = i) ⟨[], Kp.refl.new nD, lsz.new nD, upd_same, rfl⟩ (fun i Hc il ⟨is, kc, lsc, eD, lb⟩ => ?_) fun Hc ⟨is, kc, lsc, eD, lb⟩ => ?_⟩
    · refine ⟨rfl, iT (B := ∃ is : List Int, Kp [S] Hh Hc ∧ LsAt Hc S ∧ Hc D = some (.lst (is.map V.int)) ∧ is.length = i + 1) rfl ⟨_, rfl, S, 5, rfl, lsc, by decide, by decide, fun Hz j kz lz _ _ => ⟨_, _, rfl, rfl, ?_⟩⟩⟩
      have hDS : D ≠ S := lsz.ne nD
      have eD2 := kz.kp D _ (by simpa using hDS) eD
      refine ⟨_, eD2, by rw [List.length_map, lb]; exact small' (by omega), is ++ [j - 1], (kc.trans kz).own nD, lz.wr hDS eD2, by rw [upd_same, List.map_append]; rfl, by rw [List.length_append, lb]; rfl⟩
    · refine ⟨D, _, rfl, .inl ⟨SqL.of eD, fun t nt => ⟨by show 4 ≤ sizeLine; decide, fun t2 nt2 => ?_⟩⟩⟩
      have d2 : Di (upd Hc t (.tup (is.map V.int))) (.ref t) (inD is) := .tup upd_same (Dl.ints is)
      exact q _ _ (.input pth msg is) (((kk.trans kc).new nt).new nt2) ((lsc.new nt).new nt2) (.tup upd_same (.cons (.str _) (.cons (((dpt.mono kc).new nt).new nt2) (.cons (.str _) (.cons (d2.new nt2) .nil))))) (by show is.length ≤ 10; omega)

end
end Rk
/-! the law: what it asks of a history. -/
namespace Rk
open PySem PySem.Spec PyProof.Rows L2
section
variable {K : PySem.W.Frag} {mg : Str → Option Value} {P : Program} {w : World} {base : Heap}
def tWrap (t : TS) : TS := fun D σ H => t D σ H
theorem ps_wrap {X : Cx} {st : Stmt} {t : TS} (h : PS X st t) : PS X st (tWrap t) := h
theorem HisAt.keepL {L : List Addr} {H Ha : Hp} {prg : Prg} {s0 : Sta} {p le lt dk : Addr} {h : Hst} (a : HisAt K H prg s0 p le lt dk h) (k : Kp L H Ha) (n1 : p ∉ L) (n2 : le ∉ L) (n3 : lt ∉ L) (n4 : dk ∉ L) : HisAt K Ha prg s0 p le lt dk h := by
  obtain ⟨⟨dx, pv, lv, e, d1, d2⟩, ⟨xs, e2, d3⟩, ⟨ys, e3, d4⟩, ⟨kvs, e4, d5⟩⟩ := a
  exact ⟨⟨dx, pv, lv, k.kp _ _ n1 e, d1.mono k, d2.mono k⟩, ⟨xs, k.kp _ _ n2 e2, d3.mono k⟩, ⟨ys, k.kp _ _ n3 e3, d4.mono k⟩, ⟨kvs, k.kp _ _ n4 e4, d5.mono k⟩⟩
theorem HisAt.keepS {S : Addr} {H Ha : Hp} {prg : Prg} {s0 : Sta} {p le lt dk : Addr} {h : Hst} (a : HisAt K H prg s0 p le lt dk h) (ls : LsAt H S) (k : Kp [S] H Ha) (n2 : le ≠ S) (n3 : lt ≠ S) : HisAt K Ha prg s0 p le lt dk h := by
  obtain ⟨_, _, _, _, _, _, _, eS, _⟩ := ls
  obtain ⟨dx, pv, lv, e, _⟩ := a.ins
  obtain ⟨kvs, e4, _⟩ := a.kept
  refine a.keepL k ?_ (by simpa using n2) (by simpa using n3) ?_
  · rw [List.mem_singleton]; intro z; rw [z, eS] at e; cases e
  · rw [List.mem_singleton]; intro z; rw [z, eS] at e4; cases e4
def spRd (K : PySem.W.Frag) : Sp := fun vs H Q _ => ∃ p le lt dk h prg s0 evv ev, vs = [.ref p, evv] ∧ HisAt K H prg s0 p le lt dk h ∧ le ≠ lt ∧ HstOk prg s0 h ∧ h.evs.length < 40 ∧ PrgOk prg ∧ StaOk prg 100 s0 ∧ Di H evv (evD ev) ∧ EvtOk ev ∧
  (isPos prg (sAt prg s0 h.evs h.evs.length) ev = true → ∀ Ha tv td s2, Kp [p, le, lt, dk] H Ha → applyW prg (sAt prg s0 h.evs h.evs.length) h.evs.length ev = some (s2, td) → Di Ha tv (tdD td) → HisAt K Ha prg s0 p le lt dk (h.add ev td) → Q tv Ha) ∧
  (isPos prg (sAt prg s0 h.evs h.evs.length) ev = false → ∀ Ha t, Kp [] H Ha → Ha t = some (.tup [.str "impossible", evv]) → Q (.ref t) Ha)
theorem ok_law_recorded (T : Tx K mg) : FnOk P w K mg base (L2N.CX P w) 28 (He.ga K "_law_recorded") T.fd_law_recorded P_law_recorded (spRd K) := by
  refine T.D_law_recorded.ok sc_law_recorded (fun vs H Q E h => by obtain ⟨p, le, lt, dk, h, prg, s0, evv, ev, rfl, _⟩ := h; rfl) fun cdv A outer s H vs Q E hr h => ⟨_, (pss_one (ps_try_first (i := 2) rfl rfl sc_law_recorded.nd rfl rfl ⟨rfl, by decide, .inl T.g_ImpossibleEvent⟩ (fun W pn xe tk po => (pss_as (pss_one (ps_ret (pe_meR (pv 0) T.c_History T.m_History_record (ok_History_record T) hr T.b_History_record (fun σ => L2N.passAt tk σ) (pa_cons (pv 1) pa_nil)))) rfl)) (fun a oe cls d pn hz hf => (pss_as (pss_one (ps_ret (pe_tup (pa_cons pe_str (pa_cons (pe_xf T.e_ImpossibleEvent.xf T.n_ImpossibleEvent_event hz.zc hf (pv 2)) pa_nil))))) rfl)))), ?_⟩
  obtain ⟨p, le, lt, dk, h, prg, s0, evv, ev, rfl, ha, hll, ok, few, po, so, dv, eo, q1, q2⟩ := h
  obtain ⟨dx, pv, lv, e, d1, d2⟩ := id ha.ins
  refine ⟨_, rfl, p, dx, _, rfl, .inl e, rfl, _, rfl, p, le, lt, dk, h, prg, s0, evv, ev, rfl, ha, hll, ok, few, po, so, dv, eo, fun pos Ha tv td s2 k ea dt h2 => q1 pos Ha tv td s2 k ea dt h2, fun np Ha dxe k ee => ⟨T.x_ImpossibleEvent_ImpossibleEvent, fun a na => ?_⟩⟩
  exact ⟨_, rfl, rfl, rfl, dxe, _, _, rfl, ee, rfl, by show 2 ≤ sizeLine; decide, fun t nt => q2 np _ t (k.new nt) upd_same⟩
def spNm (K : PySem.W.Frag) : Sp := fun vs H Q _ => ∃ p le lt dk h prg s0 i a, vs = [.ref p, .int i] ∧ HisAt K H prg s0 p le lt dk h ∧ HstOk prg s0 h ∧ PrgOk prg ∧ FstOk prg s0 a ∧ ¬ (0 ≤ i ∧ i ≤ h.evs.length) ∧ ∀ Ha, Kp [] H Ha → Q (.bl true) Ha
theorem ok_law_is_no_moment (T : Tx K mg) : FnOk P w K mg base (L2N.CX P w) 29 (He.ga K "_law_is_no_moment") T.fd_law_is_no_moment P_law_is_no_moment (spNm K) := by
  refine T.D_law_is_no_moment.ok sc_law_is_no_moment (fun vs H Q E h => by obtain ⟨p, le, lt, dk, h, prg, s0, i, a, rfl, _⟩ := h; rfl) fun cdv A outer s H vs Q E hr h => ⟨_, (pss_cons (ps_set (i := 2) sc_law_is_no_moment.nd rfl (.inl rfl) pe_int)
    (pss_cons (ps_for PassesOwn.leaving rfl (pi_range1 rfl T.f_range (pa_cons pe_int pa_nil)) (pg_name (i := 3) sc_law_is_no_moment.nd rfl (.inl rfl))
    (pss_one (ps_wrap (ps_try_first (i := 4) rfl rfl sc_law_is_no_moment.nd rfl rfl ⟨rfl, by decide, .inl T.g_InvalidMoment⟩ (fun W pn xe tk po => (pss_as (pss_one (ps_if (pt_cmpR op_eq (pv 3) pe_int (nomark _))
    (pss_one (ps_expr (pe_meR (pv 0) T.c_History T.m_History_state_at (ok_History_state_at T) (hr.mono (by decide)) T.b_History_state_at (fun σ => L2N.passAt tk σ) (pa_cons (pv 1) pa_nil))))
    (pss_one (ps_expr (pe_meR (pv 0) T.c_History T.m_History_cut (ok_History_cut T) (hr.mono (by decide)) T.b_History_cut (fun σ => L2N.passAt tk σ) (pa_cons (pv 1) pa_nil)))))) rfl)) (fun a oe cls d pn hz hf => (pss_as (pss_one (ps_set (i := 2) sc_law_is_no_moment.nd rfl (.inl rfl) (pe_op op_add (pv 2) (pe_callTy call_int1 (by rfl) T.f_int (by decide +kernel) (pa_cons (pe_cmpR op_eq (pe_xf T.e_InvalidMoment.xf T.n_InvalidMoment_moment hz.zc hf (pv 4)) (pv 1) (nomark _)) pa_nil))))) rfl))))))
    (pss_one (ps_ret (pe_cmpR op_eq (pv 2) pe_int (nomark _)))))), ?_⟩
  obtain ⟨p, le, lt, dk, h, prg, s0, i, act, rfl, ha, ok, po, fo, no, q⟩ := h
  have so := fo.ok po
  refine ⟨2, rfl, by decide, by decide, ?_⟩
  refine for_range (lo := 0) (n := 2) (fun j σ Hc => ∃ t3, σ = [some (.ref p), some (.int i), some (.int (j : Nat)), t3, none] ∧ Kp [] H Hc) ⟨none, rfl, Kp.refl⟩ (fun j σ Hc jl ⟨t3, eσ, kc⟩ => ?_) fun σ Hc ⟨t3, eσ, kc⟩ => ?_
  · subst eσ
    have hc := ha.keep kc
    obtain ⟨dx, pv, lv, e, d1, d2⟩ := id hc.ins
    have suite : ∀ Ha dxe, Kp [] Hc Ha → Ha dxe = some (.xd [("moment", .int i)]) → True := fun _ _ _ _ => trivial
    refine ⟨_, rfl, rfl, _, rfl, iE (fun _ => ?_) fun _ => ?_⟩
    · refine ⟨_, rfl, p, dx, _, rfl, .inl e, rfl, _, rfl, p, le, lt, dk, h, prg, s0, i, rfl, hc, ok, po, so, fun y => absurd y no, fun _ Ha dxe k ee => ⟨T.x_InvalidMoment_InvalidMoment, fun a na => ?_⟩⟩
      refine ⟨_, rfl, _, rfl, rfl, rfl, dxe, _, _, rfl, ee, rfl, _, rfl, rfl, .inr ⟨_, rfl, _, _, rfl, rfl, ?_⟩⟩
      refine ⟨some (.int (0 + j)), ?_, kc.trans k⟩
      show [some (V.ref p), some (V.int i), some (V.int ((j : Int) + (if decide (V.int i = V.int i) = true then 1 else 0))), some (V.int (0 + j)), none] = _
      rw [decide_eq_true rfl, if_pos rfl]
      rfl
    · refine ⟨_, rfl, p, dx, _, rfl, .inl e, rfl, _, rfl, p, le, lt, dk, h, prg, s0, i, act, rfl, hc, ok, po, fo, fun y => absurd y no, fun _ Ha dxe k ee => ⟨T.x_InvalidMoment_InvalidMoment, fun a na => ?_⟩⟩
      refine ⟨_, rfl, _, rfl, rfl, rfl, dxe, _, _, rfl, ee, rfl, _, rfl, rfl, .inr ⟨_, rfl, _, _, rfl, rfl, ?_⟩⟩
      refine ⟨some (.int (0 + j)), ?_, kc.trans k⟩
      show [some (V.ref p), some (V.int i), some (V.int ((j : Int) + (if decide (V.int i = V.int i) = true then 1 else 0))), some (V.int (0 + j)), none] = _
      rw [decide_eq_true rfl, if_pos rfl]
      rfl
  · subst eσ
    exact ⟨_, rfl, rfl, q Hc kc⟩
def spIr (K : PySem.W.Frag) : Sp := fun vs H Q _ => ∃ S p L le lt dk h prg s0 xs, vs = [.ref S, .ref p, .ref L] ∧ LsAt H S ∧ HisAt K H prg s0 p le lt dk h ∧ HstOk prg s0 h ∧ PrgOk prg ∧ StaOk prg 100 s0 ∧ le ≠ S ∧ lt ≠ S ∧ L ≠ S ∧ H L = some (.lst xs) ∧ xs.length = h.evs.length + 1 ∧ SsAt K H prg s0 h.evs xs ∧
  ∀ Ha, Kp [S] H Ha → LsAt Ha S → Q (.bl true) Ha
theorem ok_law_is_right (T : Tx K mg) : FnOk P w K mg base (L2N.CX P w) 28 (He.ga K "_law_is_right") T.fd_law_is_right P_law_is_right (spIr K) := by
  refine T.D_law_is_right.ok sc_law_is_right (fun vs H Q E h => by obtain ⟨S, p, L, le, lt, dk, h, prg, s0, xs, rfl, _⟩ := h; rfl) fun cdv A outer s H vs Q E hr h => ⟨_, (pss_cons (ps_for PassesOwn.leaving rfl (pi_range1 rfl T.f_range (pa_cons pe_int pa_nil)) (pg_name (i := 3) sc_law_is_right.nd rfl (.inl rfl))
    (pss_cons (ps_set (i := 4) sc_law_is_right.nd rfl (.inl rfl) (pe_call (ok_law_draw T) (hr.mono (by decide)) rfl T.g__law_draw T.p_law_draw T.b_law_draw .nil pass0 (pa_cons (pv 0) (pa_cons (pe_callB call_len_seq (by rfl) T.f_len (by decide +kernel) (pa_cons (pv 2) pa_nil)) pa_nil))))
    (pss_one (ps_if (pt_not (pt_val (pe_call (ok_same_state T) (hr.mono (by decide)) rfl T.g_same_state T.p_same_state T.b_same_state .nil pass0 (pa_cons (pe_meR (pv 1) T.c_History T.m_History_state_at (ok_History_state_at T) (hr.mono (by decide)) T.b_History_state_at (fun σ => L2N.passAt (L2N.takes_of rfl rfl rfl rfl) σ) (pa_cons (pv 4) pa_nil)) (pa_cons (pe_ix ix_list (pv 2) (pv 4) (fun _ _ => rfl)) pa_nil)))))
    (pss_one (ps_ret pe_bl))
    pss_nil))))
    (pss_one (ps_ret pe_bl))), ?_⟩
  obtain ⟨S, p, L, le, lt, dk, h, prg, s0, xs, rfl, ls, ha, ok, po, so, n1, n2, n3, eL, lx, ss, q⟩ := h
  have few := ok.few
  refine ⟨3, rfl, by decide, by decide, for_range (lo := 0) (n := 3) (fun j σ Hc => ∃ t3 t4, σ = [some (.ref S), some (.ref p), some (.ref L), t3, t4] ∧ Kp [S] H Hc ∧ LsAt Hc S) ⟨none, none, rfl, Kp.refl, ls⟩ (fun j σ Hc jl ⟨t3, t4, eσ, kc, lsc⟩ => ?_) fun σ Hc ⟨t3, t4, eσ, kc, lsc⟩ => ?_⟩
  · subst eσ
    have eLc := kc.kp L _ (by simpa using n3) eL
    refine ⟨_, rfl, _, rfl, L, _, rfl, .inl (SqL.of eLc), S, _, rfl, lsc, by omega, by omega, fun H2 m k2 ls2 m0 m1 => ?_⟩
    have kd := kc.trans k2
    have hd := ha.keepS ls kd n1 n2
    obtain ⟨dx, pv, lv, e, d1, d2⟩ := id hd.ins
    refine ⟨_, rfl, p, dx, _, rfl, .inl e, rfl, _, rfl, p, le, lt, dk, h, prg, s0, m, rfl, hd, ok, po, so, fun _ Ha u k su => ?_, fun y => absurd ⟨m0, by omega⟩ y⟩
    obtain ⟨mn, rfl⟩ : ∃ mn : Nat, m = mn := ⟨m.toNat, by omega⟩
    obtain ⟨x, hx⟩ : ∃ x, xs[mn]? = some x := ⟨xs[mn]'(by omega), List.getElem?_eq_getElem (by omega)⟩
    have eL2 := k.same _ _ (kd.kp L _ (by simpa using n3) eL)
    have sx := ((ss mn x hx).mono kd).mono k
    refine ⟨_, rfl, _, rfl, L, _, _, x, rfl, rfl, SqL.of eL2, atI_nat hx, u, x, sAt prg s0 h.evs mn, prg, 100 * (mn + 1), rfl, su, sx, sAt_ok po so ok.evs (by omega) mn (by omega), by omega, fun Hb kb => ⟨_, rfl, iF rfl ?_⟩⟩
    exact ⟨_, _, rfl, (kd.trans (k.more (fun _ m => nomatch m))).trans (kb.more (fun _ m => nomatch m)), (ls2.keep k).keep kb⟩
  · subst eσ
    exact q Hc kc lsc
end
end Rk
/-! the law: plain laws of what is kept; of how many beings there are; a comprehension over a range with steps. -/
namespace Rk
open PySem PySem.Spec PyProof.Rows L2
/-! ### there is always a being -/
theorem putB_ge (l : List (Pth × Bg)) (p : Pth) (b : Bg) : l.length ≤ (putB l p b).length := by
  unfold putB
  split
  · rw [List.length_map]; exact Nat.le_refl _
  · rw [List.length_append]; omega
theorem carry1_ge (prg : Prg) (p : Pth) (b : Bg) (s : Sta) (d : Dd) : s.bgs.length ≤ (carry1 prg p b s d).2.bgs.length := by
  cases d with
  | send t m as =>
    unfold carry1
    dsimp only
    cases recv p t <;> exact Nat.le_refl _
  | spawn k as => exact putB_ge _ _ _
  | call f as m => exact Nat.le_refl _
theorem carryL_ge (prg : Prg) (p : Pth) : ∀ (ds : List Dd) (b : Bg) (s : Sta), s.bgs.length ≤ (carryL prg p ds b s).2.bgs.length
  | [], _, _ => Nat.le_refl _
  | d :: r, b, s => Nat.le_trans (carry1_ge prg p b s d) (carryL_ge prg p r _ _)
theorem handle_ge (prg : Prg) (s : Sta) (p : Pth) (m : Str) (as : List Int) (b : Bg) (h : Hd) : s.bgs.length ≤ (handle prg s p m as b h).1.bgs.length :=
  Nat.le_trans (carryL_ge prg p _ _ s) (putB_ge _ _ _)
theorem deliver_ge (prg : Prg) (s : Sta) (w : Wt) (i : Nat) : s.bgs.length ≤ (deliver prg s w i).1.bgs.length := by
  unfold deliver
  cases getB s.bgs w.path with
  | none => exact Nat.le_refl _
  | some b =>
    dsimp only
    split
    · cases handler prg b w.msg w.args.length with
      | none => exact Nat.le_refl _
      | some h =>
        show s.bgs.length ≤ (handle prg { s with bgs := putB s.bgs w.path b, wt := s.wt.eraseIdx i } w.path w.msg w.args b h).1.bgs.length
        exact Nat.le_trans (putB_ge s.bgs w.path b) (handle_ge prg { s with bgs := putB s.bgs w.path b, wt := s.wt.eraseIdx i } w.path w.msg w.args b h)
    · exact Nat.le_refl _
theorem applyW_ge {prg : Prg} {s s2 : Sta} {m : Int} {e : Evt} {td : Td} (h : applyW prg s m e = some (s2, td)) : s.bgs.length ≤ s2.bgs.length := by
  cases e with
  | input p x as => cases h; exact Nat.le_refl _
  | deliver i =>
    obtain ⟨w, _, q⟩ := Option.map_eq_some_iff.mp h
    have := deliver_ge prg s w i.toNat
    rw [q] at this
    exact this
  | answer i v =>
    obtain ⟨w, _, q⟩ := Option.map_eq_some_iff.mp h
    cases q
    exact Nat.le_refl _
theorem sAt_ge {prg : Prg} {s0 : Sta} {evs : List Evt} : ∀ n, s0.bgs.length ≤ (sAt prg s0 evs n).bgs.length
  | 0 => Nat.le_refl _
  | n + 1 => by
    refine Nat.le_trans (sAt_ge (prg := prg) (s0 := s0) (evs := evs) n) ?_
    show _ ≤ (match evs[n]? with
      | some e => stepW prg (sAt prg s0 evs n) n e
      | none => sAt prg s0 evs n).bgs.length
    cases evs[n]? with
    | none => exact Nat.le_refl _
    | some e =>
      show _ ≤ (stepW prg (sAt prg s0 evs n) n e).bgs.length
      unfold stepW
      cases q : applyW prg (sAt prg s0 evs n) n e with
      | none => exact Nat.le_refl _
      | some r => exact applyW_ge (td := r.2) q
/-! ### what is kept -/
theorem mem_forgetL : ∀ {ms : List Int} {k : List Nat} {m : Nat}, m ∈ forgetL k ms ↔ m ∈ k ∧ (m = 0 ∨ (m : Int) ∉ ms)
  | [], k, m => by show m ∈ k ↔ _; simp
  | x :: r, k, m => by
    show m ∈ forgetL (if x = 0 then k else k.filter fun y : Nat => decide ((y : Int) ≠ x)) r ↔ _
    rw [mem_forgetL]
    by_cases z : x = 0
    · rw [if_pos z]
      constructor
      · rintro ⟨a, b | b⟩
        · exact ⟨a, .inl b⟩
        · by_cases m0 : m = 0
          · exact ⟨a, .inl m0⟩
          · refine ⟨a, .inr fun c => ?_⟩
            rcases List.mem_cons.mp c with c | c
            · omega
            · exact b c
      · rintro ⟨a, b | b⟩
        · exact ⟨a, .inl b⟩
        · exact ⟨a, .inr fun c => b (List.mem_cons_of_mem _ c)⟩
    · rw [if_neg z, List.mem_filter, decide_eq_true_eq]
      constructor
      · rintro ⟨⟨a, c⟩, b | b⟩
        · exact ⟨a, .inl b⟩
        · exact ⟨a, .inr fun d => (List.mem_cons.mp d).elim c b⟩
      · rintro ⟨a, b | b⟩
        · exact ⟨⟨a, by omega⟩, .inl b⟩
        · exact ⟨⟨a, fun c => b (c ▸ List.mem_cons_self)⟩, .inr fun c => b (List.mem_cons_of_mem _ c)⟩
theorem forgetL_sub : ∀ {ms : List Int} {k : List Nat}, (forgetL k ms).Sublist k
  | [], k => List.Sublist.refl _
  | x :: r, k => by
    show (forgetL (if x = 0 then k else k.filter fun y : Nat => decide ((y : Int) ≠ x)) r).Sublist k
    refine List.Sublist.trans forgetL_sub ?_
    split
    · exact List.Sublist.refl _
    · exact List.filter_sublist
/-- what is kept, of what was forgotten -/
structure KpOk (h : Hst) (fs : List Int) : Prop where
  mem : ∀ m : Nat, m ∈ h.kept ↔ m ≤ h.evs.length ∧ m % h.every = 0 ∧ (m = 0 ∨ (m : Int) ∉ fs)
  le : ∀ f ∈ fs, f ≤ (h.evs.length : Int)
theorem kp0 {ev : Nat} {v : V} : KpOk ⟨ev, [], [], [0], v⟩ [] := ⟨fun m => by
  show m ∈ [0] ↔ m ≤ 0 ∧ m % ev = 0 ∧ _
  rw [List.mem_singleton]
  constructor
  · rintro rfl; exact ⟨Nat.le_refl _, Nat.zero_mod _, .inl rfl⟩
  · rintro ⟨a, _⟩; omega, fun _ m => nomatch m⟩
theorem KpOk.add {h : Hst} {fs : List Int} {ev : Evt} {td : Td} (k : KpOk h fs) : KpOk (h.add ev td) fs := by
  have l : (h.add ev td).evs.length = h.evs.length + 1 := by show (h.evs ++ [ev]).length = _; rw [List.length_append]; rfl
  refine ⟨fun m => ?_, fun f m => by rw [l]; have := k.le f m; omega⟩
  rw [l]
  show m ∈ (if (h.evs.length + 1) % h.every = 0 then h.kept ++ [h.evs.length + 1] else h.kept) ↔ m ≤ h.evs.length + 1 ∧ m % h.every = 0 ∧ _
  have out : ((h.evs.length + 1 : Nat) : Int) ∉ fs := fun q => by have := k.le _ q; omega
  by_cases e : (h.evs.length + 1) % h.every = 0
  · rw [if_pos e, List.mem_append, List.mem_singleton, k.mem]
    constructor
    · rintro (⟨a, b, c⟩ | rfl)
      · exact ⟨by omega, b, c⟩
      · exact ⟨Nat.le_refl _, e, .inr out⟩
    · rintro ⟨a, b, c⟩
      by_cases z : m = h.evs.length + 1
      · exact .inr z
      · exact .inl ⟨by omega, b, c⟩
  · rw [if_neg e, k.mem]
    constructor
    · rintro ⟨a, b, c⟩
      exact ⟨by omega, b, c⟩
    · rintro ⟨a, b, c⟩
      have : m ≠ h.evs.length + 1 := fun z => e (z ▸ b)
      exact ⟨by omega, b, c⟩
theorem KpOk.forget {h : Hst} {fs ms : List Int} (k : KpOk h fs) : KpOk { h with kept := forgetL h.kept ms } (fs ++ ms.filter fun m => decide (m < (h.evs.length : Int) + 1)) := by
  refine ⟨fun m => ?_, fun f mf => ?_⟩
  · show m ∈ forgetL h.kept ms ↔ m ≤ h.evs.length ∧ m % h.every = 0 ∧ _
    rw [mem_forgetL, k.mem]
    constructor
    · rintro ⟨⟨a, b, c⟩, d⟩
      refine ⟨a, b, ?_⟩
      by_cases z : m = 0
      · exact .inl z
      · have c := c.resolve_left z
        have d := d.resolve_left z
        exact .inr fun q => (List.mem_append.mp q).elim c fun q => d (List.mem_filter.mp q).1
    · rintro ⟨a, b, c⟩
      rcases c with c | c
      · exact ⟨⟨a, b, .inl c⟩, .inl c⟩
      · exact ⟨⟨a, b, .inr fun q => c (List.mem_append_left _ q)⟩, .inr fun q => c (List.mem_append_right _ (List.mem_filter.mpr ⟨q, decide_eq_true (by omega)⟩))⟩
  · rcases List.mem_append.mp mf with q | q
    · exact k.le f q
    · have := of_decide_eq_true (List.mem_filter.mp q).2
      show f ≤ (h.evs.length : Int)
      omega
theorem HstOk.forget {prg : Prg} {s0 : Sta} {h : Hst} {ms : List Int} (ok : HstOk prg s0 h) : HstOk prg s0 { h with kept := forgetL h.kept ms } :=
  ⟨ok.ev1, ok.ev9, ok.few, ok.evs, ok.tds, fun m hm => ok.le m (mem_forgetL.mp hm).1, mem_forgetL.mpr ⟨ok.z, .inl rfl⟩, ok.nd.sublist forgetL_sub, Nat.le_trans forgetL_sub.length_le ok.kl⟩
theorem sorted_ext : ∀ {xs ys : List Int}, xs.Pairwise (· < ·) → ys.Pairwise (· < ·) → (∀ a, a ∈ xs ↔ a ∈ ys) → xs = ys
  | [], [], _, _, _ => rfl
  | [], y :: _, _, _, h => absurd ((h y).mpr List.mem_cons_self) (by simp)
  | x :: _, [], _, _, h => absurd ((h x).mp List.mem_cons_self) (by simp)
  | x :: xs, y :: ys, hx, hy, h => by
    have hx' := List.pairwise_cons.mp hx
    have hy' := List.pairwise_cons.mp hy
    have e : x = y := by
      rcases List.mem_cons.mp ((h x).mp List.mem_cons_self) with e | m
      · exact e
      · rcases List.mem_cons.mp ((h y).mpr List.mem_cons_self) with e | m'
        · exact e.symm
        · have := hy'.1 x m
          have := hx'.1 y m'
          omega
    subst e
    rw [sorted_ext hx'.2 hy'.2 fun a => ?_]
    constructor
    · intro m
      rcases List.mem_cons.mp ((h a).mp (List.mem_cons_of_mem _ m)) with e | q
      · have := hx'.1 a m; omega
      · exact q
    · intro m
      rcases List.mem_cons.mp ((h a).mpr (List.mem_cons_of_mem _ m)) with e | q
      · have := hy'.1 a m; omega
      · exact q
/-- the moments that are due, up to the n-th multiple -/
def dueL (ev : Nat) (fs : List Int) (n : Nat) : List Int := ((List.range n).map fun i : Nat => ((i : Int) * (ev : Int))).filter fun m => decide (m = 0 ∨ m ∉ fs)
theorem dueL_succ {ev : Nat} {fs : List Int} {n : Nat} : dueL ev fs (n + 1) = if (n : Int) * (ev : Int) = 0 ∨ (n : Int) * (ev : Int) ∉ fs then dueL ev fs n ++ [(n : Int) * (ev : Int)] else dueL ev fs n := by
  unfold dueL
  rw [List.range_succ, List.map_append, List.filter_append]
  show _ ++ List.filter _ [(n : Int) * (ev : Int)] = _
  by_cases c : (n : Int) * (ev : Int) = 0 ∨ (n : Int) * (ev : Int) ∉ fs
  · rw [if_pos c, List.filter_cons, if_pos (decide_eq_true c)]; rfl
  · rw [if_neg c, List.filter_cons, if_neg (by rw [decide_eq_true_eq]; exact c)]; simp
theorem dueL_sorted {ev : Nat} {fs : List Int} (h : 1 ≤ ev) (n : Nat) : (dueL ev fs n).Pairwise (· < ·) := by
  refine List.Pairwise.filter _ (List.pairwise_map.mpr (List.Pairwise.imp (fun {a b} l => ?_) List.pairwise_lt_range))
  exact Int.mul_lt_mul_of_pos_right (by omega) (by omega)
theorem due_is {h : Hst} {fs ns : List Int} {n : Nat} (k : KpOk h fs) (e1 : 1 ≤ h.every) (hn : ∀ i : Nat, i < n ↔ i * h.every ≤ h.evs.length) (nd : h.kept.Nodup) (pm : ns.Perm (h.kept.map fun m : Nat => (m : Int))) (so : ns.Pairwise (· ≤ ·)) : ns = dueL h.every fs n := by
  refine sorted_ext ?_ (dueL_sorted e1 n) fun a => ?_
  · have nd2 : ns.Nodup := pm.nodup_iff.mpr (List.pairwise_map.mpr (List.Pairwise.imp (fun {a b} l => by omega) nd))
    exact (List.Pairwise.and so nd2).imp fun {a b} ⟨l, ne⟩ => by omega
  · rw [pm.mem_iff, List.mem_map]
    unfold dueL
    rw [List.mem_filter, List.mem_map, decide_eq_true_eq]
    constructor
    · rintro ⟨m, hm, rfl⟩
      obtain ⟨a, b, c⟩ := (k.mem m).mp hm
      have e : m / h.every * h.every = m := Nat.div_mul_cancel (Nat.dvd_of_mod_eq_zero b)
      refine ⟨⟨m / h.every, List.mem_range.mpr ((hn _).mpr (by rw [e]; exact a)), by rw [← Int.natCast_mul, e]⟩, c.imp (fun z => by omega) id⟩
    · rintro ⟨⟨i, hi, rfl⟩, c⟩
      refine ⟨i * h.every, (k.mem _).mpr ⟨(hn i).mp (List.mem_range.mp hi), Nat.mul_mod_left _ _, c.imp (fun z => ?_) fun z => by rw [Int.natCast_mul]; exact z⟩, Int.natCast_mul _ _⟩
      rw [← Int.natCast_mul] at z
      omega
/-- the turns of range(0, len, every) -/
theorem steps {L ev : Nat} (h1 : 1 ≤ ev) (h9 : ev ≤ 100) (l1 : 1 ≤ L) (l9 : L ≤ 100) : RgC 0 (L : Int) (ev : Int) ((L - 1) / ev + 1) ∧ ∀ i : Nat, i < (L - 1) / ev + 1 ↔ i * ev ≤ L - 1 := by
  have hs : Builtin.Range.rangeSize 0 (L : Int) (ev : Int) = (((L - 1) / ev + 1 : Nat) : Int) := by
    unfold Builtin.Range.rangeSize
    rw [if_pos (by omega), if_pos (by omega), Int.sub_zero]
    rw [show ((L : Int) - 1) = ((L - 1 : Nat) : Int) from by omega, ← Int.natCast_ediv]
    rfl
  refine ⟨⟨by omega, by omega, ?_, hs⟩, fun i => ?_⟩
  · have q : (L - 1) / ev ≤ L - 1 := Nat.div_le_self _ _
    unfold Builtin.Range.small
    rw [hs]
    generalize (L - 1) / ev = d at q ⊢
    simp only [Builtin.Range.rangeFitsLong, Bool.and_eq_true, Bool.or_eq_true, decide_eq_true_eq, beq_iff_eq]
    rw [if_pos (by omega)]
    simp only [Bool.and_eq_true, decide_eq_true_eq]
    omega
  · rw [Nat.lt_succ_iff, Nat.le_div_iff_mul_le (by omega)]
section
theorem lc_rangeC {lo c : Int} {n : Nat} {g : TG} {tt : TT} {te : TE} {vs : List Nat} {σ : L2.St} {H1 : Hp} {D : Addr} {Qd : Hp → Prop} (Pv : Nat → Hp → Prop) (h0 : Pv 0 (upd H1 D (.lst [])))
    (hs : ∀ i H, i < n → Pv i H → g (.int (lo + (i : Nat) * c)) (wipe σ vs) H fun σ2 H2 => wipe σ2 vs = wipe σ vs ∧ tt σ2 H2 fun b H3 =>
      if b = true then te σ2 H3 fun y H4 => ∃ acc, H4 D = some (.lst acc) ∧ acc.length < sizeLine ∧ Pv (i + 1) (upd H4 D (.lst (acc ++ [y]))) else Pv (i + 1) H3) (hd : ∀ H, Pv n H → Qd H) :
    ∃ W : Nat → Nat → Hp → Prop, (∃ m, W 0 m (upd H1 D (.lst []))) ∧ ∀ i m H, W i m H →
      ((Itc lo c n).stop i H ∧ Qd H) ∨ ((Itc lo c n).go i H ∧ ∃ Nx : Hp → Prop, (∀ H', Nx H' → ∃ m', m' < m ∧ W (i + 1) m' H') ∧ ∀ x H', (Itc lo c n).yld i H x H' → g x (wipe σ vs) H' fun σ2 H2 => wipe σ2 vs = wipe σ vs ∧ tt σ2 H2 fun b H3 =>
        if b = true then te σ2 H3 fun y H4 => ∃ acc, H4 D = some (.lst acc) ∧ acc.length < sizeLine ∧ Nx (upd H4 D (.lst (acc ++ [y]))) else Nx H3) := by
  refine ⟨fun i m H => m = n - i ∧ i ≤ n ∧ Pv i H, ⟨n, by simp, Nat.zero_le _, h0⟩, ?_⟩
  rintro i m H ⟨rfl, hi, p⟩
  by_cases hlt : i < n
  · refine .inr ⟨hlt, Pv (i + 1), fun H' p' => ⟨n - (i + 1), by omega, rfl, hlt, p'⟩, fun x H' y => ?_⟩
    obtain ⟨e, y⟩ := y
    subst e y
    exact hs i _ hlt p
  · have e : i = n := by omega
    subst e
    exact .inl ⟨Nat.le_refl _, hd H p⟩
end
end Rk
/-! the law. -/
namespace Rk
open PySem PySem.Spec PyProof.Rows L2
section
variable {K : PySem.W.Frag} {mg : Str → Option Value} {P : Program} {w : World} {base : Heap}
theorem ix_listK {X : Cx} (hK : X.K = K) : IxR X (rIxL K) := hK ▸ ix_list
theorem op_notInK {X : Cx} (hK : X.K = K) : OpR X (compareOp .NotIn) (rIn K true) := hK ▸ op_notIn_seq
theorem call_lenK {X : Cx} (hK : X.K = K) : CallR X (.builtin "len") (fun xs H Q => ∃ p ys, xs = [V.ref p] ∧ (SqL K H p ys ∨ SqT K H p ys) ∧ Q (.int (ys.length : Nat)) H) := hK ▸ call_len_seq
theorem inV_ints (m : Int) : ∀ fs : List Int, inV (V.int m) (fs.map V.int) = decide (m ∈ fs)
  | [] => rfl
  | f :: fs => by
    have ih := inV_ints m fs
    unfold inV at ih ⊢
    rw [List.map_cons, List.any_cons, ih]
    show (f == m || decide (m ∈ fs)) = _
    by_cases e : m = f
    · subst e; simp
    · have e2 : (f == m) = false := by simpa using Ne.symm e
      rw [e2, Bool.false_or]
      simp [e]
theorem Dl.take {H : Hp} : ∀ {ds : List PyData} {vs : List V} (n : Nat), Dl H vs ds → Dl H (vs.take n) (ds.take n)
  | _, _, 0, h => .nil
  | [], _, n + 1, h => by rw [h.inv_nil]; exact .nil
  | _ :: _, _, n + 1, h => by
    obtain ⟨x, xs, rfl, q, t⟩ := h.inv_cons
    exact .cons q (Dl.take n t)
theorem SsAt.more {H : Hp} {prg : Prg} {s0 : Sta} {evs l : List Evt} {xs : List V} (h : SsAt K H prg s0 evs xs) (e : xs.length ≤ evs.length + 1) : SsAt K H prg s0 (evs ++ l) xs := fun j u q => by
  have := (List.getElem?_eq_some_iff.mp q).1
  rw [sAt_app (by omega)]
  exact h j u q
theorem eq2_td {H : Hp} {v u : V} {td : Td} (a : Di H v (tdD td)) (b : Di H u (tdD td)) : Eq2 K H v u := by
  have d := dpt_td td
  obtain ⟨ds, e⟩ : ∃ ds, tdD td = .tuple ds := by cases td <;> exact ⟨_, rfl⟩
  rw [e] at a b d
  exact eq2_tup (by have : dptL ds + 1 ≤ 10 := d; omega) a b
theorem eq2_imp {H : Hp} {v : V} {t1 t2 : Addr} {ev : Evt} (a : Di H v (evD ev)) (e1 : H t1 = some (.tup [.str "impossible", v])) (e2 : H t2 = some (.tup [.str "impossible", v])) : Eq2 K H (.ref t1) (.ref t2) :=
  ⟨t1, t2, _, _, 60, rfl, rfl, Nat.le_refl _, .inr ⟨SqT.of e1, SqT.of e2⟩, .cons (.inl ⟨rfl, rfl⟩) (.cons (Di.eqT (Nat.le_trans (dpt_ev ev) (by decide)) a a) .nil)⟩
theorem eq2_ints {H : Hp} {a b : Addr} {ns : List Int} (e1 : SqL K H a (ns.map V.int)) (e2 : SqL K H b (ns.map V.int)) : Eq2 K H (.ref a) (.ref b) :=
  eq2_seq (Nat.le_trans (dptL_ints ns) (by decide)) e1 e2 (Dl.ints ns) (Dl.ints ns)
structure LwAt (K : PySem.W.Frag) (H : Hp) (prg : Prg) (s0 : Sta) (S : Addr) (v : V) (p le lt dk Ls Le Lt Lf : Addr) (h : Hst) (fs : List Int) : Prop where
  pg : PrgAt K H v prg
  ls : LsAt H S
  hs : HisAt K H prg s0 p le lt dk h
  ok : HstOk prg s0 h
  ss : ∃ xs, H Ls = some (.lst xs) ∧ xs.length = h.evs.length + 1 ∧ SsAt K H prg s0 h.evs xs
  es : ∃ xs, H Le = some (.lst xs) ∧ Dl H xs (h.evs.map evD)
  ts : ∃ xs, H Lt = some (.lst xs) ∧ Dl H xs (h.tds.map tdD)
  fg : H Lf = some (.lst (fs.map V.int))
  nd : [S, Ls, Le, Lt, Lf, le, lt].Nodup
  kp : KpOk h fs
section
variable {H Ha : Hp} {prg : Prg} {s0 : Sta} {S : Addr} {v : V} {p le lt dk Ls Le Lt Lf : Addr} {h : Hst} {fs : List Int}
theorem LwAt.keep (a : LwAt K H prg s0 S v p le lt dk Ls Le Lt Lf h fs) (k : Kp [] H Ha) : LwAt K Ha prg s0 S v p le lt dk Ls Le Lt Lf h fs := by
  obtain ⟨xs, e1, l, s⟩ := a.ss
  obtain ⟨es, e2, d2⟩ := a.es
  obtain ⟨ts, e3, d3⟩ := a.ts
  exact ⟨a.pg.mono k, a.ls.keep k, a.hs.keep k, a.ok, ⟨xs, k.same _ _ e1, l, s.mono k⟩, ⟨es, k.same _ _ e2, d2.mono k⟩, ⟨ts, k.same _ _ e3, d3.mono k⟩, k.same _ _ a.fg, a.nd, a.kp⟩
theorem LwAt.ne (a : LwAt K H prg s0 S v p le lt dk Ls Le Lt Lf h fs) : Ls ≠ S ∧ Le ≠ S ∧ Lt ≠ S ∧ Lf ≠ S ∧ le ≠ S ∧ lt ≠ S := by
  have := a.nd
  simp only [List.nodup_cons, List.mem_cons, List.not_mem_nil, or_false, not_or] at this
  obtain ⟨⟨a1, a2, a3, a4, a5, a6⟩, _⟩ := this
  exact ⟨Ne.symm a1, Ne.symm a2, Ne.symm a3, Ne.symm a4, Ne.symm a5, Ne.symm a6⟩
theorem LwAt.keepS (a : LwAt K H prg s0 S v p le lt dk Ls Le Lt Lf h fs) (k : Kp [S] H Ha) (ls : LsAt Ha S) : LwAt K Ha prg s0 S v p le lt dk Ls Le Lt Lf h fs := by
  obtain ⟨xs, e1, l, s⟩ := a.ss
  obtain ⟨es, e2, d2⟩ := a.es
  obtain ⟨ts, e3, d3⟩ := a.ts
  obtain ⟨n1, n2, n3, n4, n5, n6⟩ := a.ne
  exact ⟨a.pg.mono k, ls, a.hs.keepS a.ls k n5 n6, a.ok, ⟨xs, k.kp _ _ (by simpa using n1) e1, l, s.mono k⟩, ⟨es, k.kp _ _ (by simpa using n2) e2, d2.mono k⟩, ⟨ts, k.kp _ _ (by simpa using n3) e3, d3.mono k⟩, k.kp _ _ (by simpa using n4) a.fg, a.nd, a.kp⟩
theorem LwAt.keepD {D : Addr} (a : LwAt K H prg s0 S v p le lt dk Ls Le Lt Lf h fs) (k : Kp [D] H Ha) (w0 : S ≠ D) (w1 : Ls ≠ D) (w2 : Le ≠ D) (w3 : Lt ≠ D) (w4 : Lf ≠ D) (w5 : p ≠ D) (w6 : le ≠ D) (w7 : lt ≠ D) (w8 : dk ≠ D) : LwAt K Ha prg s0 S v p le lt dk Ls Le Lt Lf h fs := by
  obtain ⟨xs, e1, l, s⟩ := a.ss
  obtain ⟨es, e2, d2⟩ := a.es
  obtain ⟨ts, e3, d3⟩ := a.ts
  have o : ∀ {X : Addr}, X ≠ D → X ∉ [D] := fun n => by simpa using n
  exact ⟨a.pg.mono k, a.ls.mono k (o w0), a.hs.keepL k (o w5) (o w6) (o w7) (o w8), a.ok, ⟨xs, k.kp _ _ (o w1) e1, l, s.mono k⟩, ⟨es, k.kp _ _ (o w2) e2, d2.mono k⟩, ⟨ts, k.kp _ _ (o w3) e3, d3.mono k⟩, k.kp _ _ (o w4) a.fg, a.nd, a.kp⟩
end
/-- the slots and the heap between the turns -/
def LwSt (K : PySem.W.Frag) (prg : Prg) (s0 : Sta) (scr S : Addr) (v : V) (ev : Nat) (p le lt dk Ls Le Lt : Addr) (n m : Nat) (σ : L2.St) (H : Hp) : Prop := ∃ Lf h fs t9 t10 t11 t12 t13 t14,
  σ = [some (.ref scr), some (.ref S), some v, some (.int (ev : Nat)), some (.ref p), some (.ref Ls), some (.ref Le), some (.ref Lt), some (.ref Lf), t9, t10, t11, t12, t13, t14, none, none, none, none, none, none] ∧
  h.every = ev ∧ h.pgm = v ∧ h.evs.length ≤ n ∧ fs.length ≤ 3 * m ∧ LwAt K H prg s0 S v p le lt dk Ls Le Lt Lf h fs
def spLw (K : PySem.W.Frag) : Sp := fun vs H Q _ => ∃ x, ∃ scr : List Int, vs = [.ref x] ∧ SqL K H x (scr.map V.int) ∧ ∀ Ha, Q (.bl true) Ha
theorem ok_law (T : Tx K mg) : FnOk P w K mg base (L2N.CX P w) 30 (He.ga K "law") T.fd_law P_law (spLw K) := by
  obtain ⟨mv, be⟩ := T.be_History_init
  refine T.D_law.ok sc_law (fun vs H Q E h => by obtain ⟨x, scr, rfl, _⟩ := h; rfl) fun cdv A outer s H vs Q E hr h => ⟨_, (pss_cons (ps_set (i := 1) sc_law.nd rfl (.inr rfl) (pe_call (ok_law_state T) (hr.mono (by decide)) rfl T.g__law_state T.p_law_state T.b_law_state .nil pass0 (pa_cons (pv 0) pa_nil)))
    (pss_cons (ps_set (i := 2) sc_law.nd rfl (.inl rfl) (pe_call (ok_law_program T) (hr.mono (by decide)) rfl T.g__law_program T.p_law_program T.b_law_program .nil pass0 (pa_cons (pv 1) pa_nil)))
    (pss_cons (ps_set (i := 3) sc_law.nd rfl (.inl rfl) (pe_op op_add pe_int (pe_call (ok_law_draw T) (hr.mono (by decide)) rfl T.g__law_draw T.p_law_draw T.b_law_draw .nil pass0 (pa_cons (pv 1) (pa_cons pe_int pa_nil)))))
    (pss_cons (ps_set (i := 4) sc_law.nd rfl (.inl rfl) (pe_makeK T.k_History (ok_History_init T) (hr.mono (by decide)) rfl T.g_History be pass0 (pa_cons (pv 2) pa_nil) (pk_cons (pv 3) pk_nil)))
    (pss_cons (ps_set (i := 5) sc_law.nd rfl (.inr rfl) (pe_lst (pa_cons (pe_call (ok_first_state T) (hr.mono (by decide)) rfl T.g_first_state T.p_first_state T.b_first_state .nil pass0 (pa_cons (pv 2) pa_nil)) pa_nil)))
    (pss_cons (ps_set (i := 6) sc_law.nd rfl (.inl rfl) (pe_lst pa_nil))
    (pss_cons (ps_set (i := 7) sc_law.nd rfl (.inl rfl) (pe_lst pa_nil))
    (pss_cons (ps_set (i := 8) sc_law.nd rfl (.inr rfl) (pe_lst pa_nil))
    (pss_cons (ps_for PassesOwn.leaving rfl (pi_range1 rfl T.f_range (pa_cons (pe_call (ok_law_draw T) (hr.mono (by decide)) rfl T.g__law_draw T.p_law_draw T.b_law_draw .nil pass0 (pa_cons (pv 1) (pa_cons pe_int pa_nil))) pa_nil)) (pg_name (i := 9) sc_law.nd rfl (.inl rfl))
    (pss_cons (ps_set (i := 10) sc_law.nd rfl (.inl rfl) (pe_ix ix_list (pv 5) (pe_un un_neg pe_int) (fun _ _ => rfl)))
    (pss_cons (ps_set (i := 11) sc_law.nd rfl (.inl rfl) (pe_call (ok_law_event T) (hr.mono (by decide)) rfl T.g__law_event T.p_law_event T.b_law_event .nil pass0 (pa_cons (pv 1) (pa_cons (pe_callB (call_lenK (K := K) rfl) (by rfl) T.f_len PySem.boot_len (pa_cons (pe_att T.c_State T.n_State_waiting (pv 10)) pa_nil)) (pa_cons (pe_callB (call_lenK (K := K) rfl) (by rfl) T.f_len PySem.boot_len (pa_cons (pe_att T.c_State T.n_State_pending (pv 10)) pa_nil)) (pa_cons (pe_callB (cr_sortedT hr.units) (by rfl) T.f_sorted (by decide +kernel) (pa_cons (pe_callTy (call_list_dT rfl) (by rfl) T.f_list (by decide +kernel) (pa_cons (pe_att T.c_State T.n_State_beings (pv 10)) pa_nil)) pa_nil)) pa_nil))))))
    (Evl.pss_cut (ps_if (pt_val (pe_call (ok_is_possible T) (hr.mono (by decide)) rfl T.g_is_possible T.p_is_possible T.b_is_possible .nil pass0 (pa_cons (pv 2) (pa_cons (pv 10) (pa_cons (pv 11) pa_nil)))))
    (pss_cons (ps_asg (pe_call (ok_apply T) (hr.mono (by decide)) rfl T.g_apply T.p_apply T.b_apply .nil pass0 (pa_cons (pv 2) (pa_cons (pv 10) (pa_cons (pv 11) (pa_cons (pe_callB (call_lenK (K := K) rfl) (by rfl) T.f_len PySem.boot_len (pa_cons (pv 6) pa_nil)) pa_nil))))) (pg_tup rfl (pgs_cons (pg_name (i := 12) sc_law.nd rfl (.inl rfl)) (pgs_cons (pg_name (i := 13) sc_law.nd rfl (.inl rfl)) pgs_nil))))
    (pss_cons (ps_expr (pe_bm PySem.F.plainAttrs_list PySem.F.slot_list_append PySem.F.type_list_append mt_append (pv 6) (pa_cons (pv 11) pa_nil)))
    (pss_cons (ps_expr (pe_bm PySem.F.plainAttrs_list PySem.F.slot_list_append PySem.F.type_list_append mt_append (pv 7) (pa_cons (pv 13) pa_nil)))
    (pss_cons (ps_expr (pe_bm PySem.F.plainAttrs_list PySem.F.slot_list_append PySem.F.type_list_append mt_append (pv 5) (pa_cons (pv 12) pa_nil)))
    (pss_one (ps_if (pt_cmpR (op_neT hr.units) (pe_call (ok_law_recorded T) (hr.mono (by decide)) rfl T.g__law_recorded T.p_law_recorded T.b_law_recorded .nil pass0 (pa_cons (pv 4) (pa_cons (pv 11) pa_nil))) (pv 13) (nomark _))
    (pss_one (ps_ret pe_bl))
    pss_nil))))))
    (pss_one (ps_if (pt_cmpR (op_neT hr.units) (pe_call (ok_law_recorded T) (hr.mono (by decide)) rfl T.g__law_recorded T.p_law_recorded T.b_law_recorded .nil pass0 (pa_cons (pv 4) (pa_cons (pv 11) pa_nil))) (pe_tup (pa_cons pe_str (pa_cons (pv 11) pa_nil))) (nomark _))
    (pss_one (ps_ret pe_bl))
    pss_nil)))
    (Evl.pss_cut (ps_if (pt_cmpR op_eq (pe_call (ok_law_draw T) (hr.mono (by decide)) rfl T.g__law_draw T.p_law_draw T.b_law_draw .nil pass0 (pa_cons (pv 1) (pa_cons pe_int pa_nil))) pe_int (nomark _))
    (pss_cons (ps_setLc (i := 14) (own := [("_law_again", 19)]) rfl sc_law.nd rfl rfl (sw_true rfl rfl rfl (by decide +kernel)) (pi_range1 rfl T.f_range (pa_cons (pe_call (ok_law_draw T) (hr.mono (by decide)) rfl T.g__law_draw T.p_law_draw T.b_law_draw .nil pass0 (pa_cons (pv 1) (pa_cons pe_int pa_nil))) pa_nil)) (blkOk_by (own := [("_law_again", 19)]) (N := N_law) (sc := defScope s_law) (by decide +kernel)) (fun _ _ _ _ _ => (pg_name (i := 19) sc_law.nd rfl (.inl rfl))) (fun _ _ _ _ _ => pts_nil) (fun _ _ _ _ _ => (pe_op op_sub (pe_call (ok_law_draw T) (hr.mono (by decide)) rfl T.g__law_draw T.p_law_draw T.b_law_draw .nil pass0 (pa_cons (pv 1) (pa_cons (pe_op op_add (pe_callB (call_lenK (K := K) rfl) (by rfl) T.f_len PySem.boot_len (pa_cons (pv 5) pa_nil)) pe_int) pa_nil))) pe_int)))
    (pss_cons (ps_expr (pe_meR (pv 4) T.c_History T.m_History_forget (ok_History_forget T) (hr.mono (by decide)) T.b_History_forget (fun _ => passAt0) (pa_cons (pv 14) pa_nil)))
    (pss_one (ps_set (i := 8) sc_law.nd rfl (.inr rfl) (pe_op op_catL (pv 8) (pe_lc (own := [("_law_moment", 15)]) rfl sc_law.nd (pi_list (pv 14)) (blkOk_by (own := [("_law_moment", 15)]) (N := N_law) (sc := defScope s_law) (by decide +kernel)) (fun _ _ _ _ _ => (pg_name (i := 15) sc_law.nd rfl (.inl rfl))) (fun _ _ _ _ _ => (pts_one (pt_cmpR op_lt (pv 15) (pe_callB (call_lenK (K := K) rfl) (by rfl) T.f_len PySem.boot_len (pa_cons (pv 5) pa_nil)) (nomark _)))) (fun _ _ _ _ _ => (pv 15))))))))
    pss_nil)
    (pss_one (ps_if (PW.pt (pw_and (pt_cmpR op_eq (pe_call (ok_law_draw T) (hr.mono (by decide)) rfl T.g__law_draw T.p_law_draw T.b_law_draw .nil pass0 (pa_cons (pv 1) (pa_cons pe_int pa_nil))) pe_int (nomark _)) (pw_and1 (pt_not (pt_val (pe_call (ok_law_is_right T) (hr.mono (by decide)) rfl T.g__law_is_right T.p_law_is_right T.b_law_is_right .nil pass0 (pa_cons (pv 1) (pa_cons (pv 4) (pa_cons (pv 5) pa_nil)))))))))
    (pss_one (ps_ret pe_bl))
    pss_nil)))))))
    (pss_cons (ps_for PassesOwn.leaving rfl (pi_range1 rfl T.f_range (pa_cons (pe_callB (call_lenK (K := K) rfl) (by rfl) T.f_len PySem.boot_len (pa_cons (pv 5) pa_nil)) pa_nil)) (pg_name (i := 15) sc_law.nd rfl (.inl rfl))
    (pss_one (ps_if (pt_not (pt_val (pe_call (ok_same_state T) (hr.mono (by decide)) rfl T.g_same_state T.p_same_state T.b_same_state .nil pass0 (pa_cons (pe_meR (pv 4) T.c_History T.m_History_state_at (ok_History_state_at T) (hr.mono (by decide)) T.b_History_state_at (fun _ => passAt0) (pa_cons (pv 15) pa_nil)) (pa_cons (pe_ix ix_list (pv 5) (pv 15) (fun _ _ => rfl)) pa_nil)))))
    (pss_one (ps_ret pe_bl))
    pss_nil)))
    (pss_cons (ps_setLc (i := 16) (own := [("_law_moment", 15)]) rfl sc_law.nd rfl rfl (sw_true rfl rfl rfl (by decide +kernel)) (pi_range3 rfl T.f_range (pa_cons pe_int (pa_cons (pe_callB (call_lenK (K := K) rfl) (by rfl) T.f_len PySem.boot_len (pa_cons (pv 5) pa_nil)) (pa_cons (pv 3) pa_nil)))) (blkOk_by (own := [("_law_moment", 15)]) (N := N_law) (sc := defScope s_law) (by decide +kernel)) (fun _ _ _ _ _ => (pg_name (i := 15) sc_law.nd rfl (.inl rfl))) (fun _ _ _ _ _ => (pts_one (PW.pt (pw_or (pt_cmpR op_eq (pv 15) pe_int (nomark _)) (pw_or1 (pt_cmpR (op_notInK (K := K) rfl) (pv 15) (pv 8) (by rfl))))))) (fun _ _ _ _ _ => (pv 15)))
    (pss_cons (ps_if (PW.pt (pw_or (pt_cmpR (op_neT hr.units) (pe_meth0 (pv 4) T.c_History T.m_History_kept (ok_History_kept T) (hr.mono (by decide)) T.b_History_kept .nil pass0) (pv 16) (nomark _)) (pw_or (pt_cmpR (op_neT hr.units) (pe_meth0 (pv 4) T.c_History T.m_History_events (ok_History_events T) (hr.mono (by decide)) T.b_History_events .nil pass0) (pv 6) (nomark _)) (pw_or (pt_cmpR (op_neT hr.units) (pe_meth0 (pv 4) T.c_History T.m_History_told (ok_History_told T) (hr.mono (by decide)) T.b_History_told .nil pass0) (pv 7) (nomark _)) (pw_or1 (pt_not (pt_val (pe_call (ok_same_program T) (hr.mono (by decide)) rfl T.g_same_program T.p_same_program T.b_same_program .nil pass0 (pa_cons (pe_fe T.c_History T.n_History_program (pv 4)) (pa_cons (pv 2) pa_nil))))))))))
    (pss_one (ps_ret pe_bl))
    pss_nil)
    (pss_cons (ps_set (i := 17) sc_law.nd rfl (.inr rfl) (pe_call (ok_states_of T) (hr.mono (by decide)) rfl T.g_states_of T.p_states_of T.b_states_of .nil pass0 (pa_cons (pv 2) (pa_cons (pe_callTy call_list_of (by rfl) T.f_list (by decide +kernel) (pa_cons (pv 6) pa_nil)) pa_nil))))
    (pss_cons (ps_if (PW.pt (pw_or (pt_cmpR op_ne (pe_callB (call_lenK (K := K) rfl) (by rfl) T.f_len PySem.boot_len (pa_cons (pv 17) pa_nil)) (pe_callB (call_lenK (K := K) rfl) (by rfl) T.f_len PySem.boot_len (pa_cons (pv 5) pa_nil)) (nomark _)) (pw_or1 (pt_not (pt_val (pe_callB (cr_all rfl) (by rfl) T.f_all (by decide +kernel) (pa_cons (pe_lc (own := [("_law_k", 20)]) rfl sc_law.nd (pi_range1 rfl T.f_range (pa_cons (pe_callB (call_lenK (K := K) rfl) (by rfl) T.f_len PySem.boot_len (pa_cons (pv 5) pa_nil)) pa_nil)) (blkOk_by (own := [("_law_k", 20)]) (N := N_law) (sc := defScope s_law) (by decide +kernel)) (fun _ _ _ _ _ => (pg_name (i := 20) sc_law.nd rfl (.inl rfl))) (fun _ _ _ _ _ => pts_nil) (fun _ _ _ _ _ => (pe_call (ok_same_state T) (hr.mono (by decide)) rfl T.g_same_state T.p_same_state T.b_same_state .nil pass0 (pa_cons (pe_ix (ix_listK (K := K) rfl) (pv 17) (pv 20) (fun _ _ => rfl)) (pa_cons (pe_ix (ix_listK (K := K) rfl) (pv 5) (pv 20) (fun _ _ => rfl)) pa_nil))))) pa_nil)))))))
    (pss_one (ps_ret pe_bl))
    pss_nil)
    (pss_cons (ps_set (i := 10) sc_law.nd rfl (.inl rfl) (pe_call (ok_law_draw T) (hr.mono (by decide)) rfl T.g__law_draw T.p_law_draw T.b_law_draw .nil pass0 (pa_cons (pv 1) (pa_cons (pe_callB (call_lenK (K := K) rfl) (by rfl) T.f_len PySem.boot_len (pa_cons (pv 5) pa_nil)) pa_nil))))
    (pss_cons (ps_set (i := 18) sc_law.nd rfl (.inl rfl) (pe_meR (pv 4) T.c_History T.m_History_cut (ok_History_cut T) (hr.mono (by decide)) T.b_History_cut (fun _ => passAt0) (pa_cons (pv 10) pa_nil)))
    (pss_cons (ps_if (PW.pt (pw_or (pt_cmpR (op_neT hr.units) (pe_meth0 (pv 18) T.c_History T.m_History_events (ok_History_events T) (hr.mono (by decide)) T.b_History_events .nil pass0) (pe_slice sl_list (pv 6) po_none (po_some (pv 10))) (nomark _)) (pw_or (pt_cmpR (op_neT hr.units) (pe_meth0 (pv 4) T.c_History T.m_History_events (ok_History_events T) (hr.mono (by decide)) T.b_History_events .nil pass0) (pv 6) (nomark _)) (pw_or1 (pt_not (pt_val (pe_call (ok_same_state T) (hr.mono (by decide)) rfl T.g_same_state T.p_same_state T.b_same_state .nil pass0 (pa_cons (pe_meR (pv 18) T.c_History T.m_History_state_at (ok_History_state_at T) (hr.mono (by decide)) T.b_History_state_at (fun _ => passAt0) (pa_cons (pv 10) pa_nil)) (pa_cons (pe_ix ix_list (pv 5) (pv 10) (fun _ _ => rfl)) pa_nil)))))))))
    (pss_one (ps_ret pe_bl))
    pss_nil)
    (pss_one (ps_ret (pe_and (pe_call (ok_law_is_no_moment T) hr rfl T.g__law_is_no_moment T.p_law_is_no_moment T.b_law_is_no_moment .nil pass0 (pa_cons (pv 4) (pa_cons (pe_callB (call_lenK (K := K) rfl) (by rfl) T.f_len PySem.boot_len (pa_cons (pv 5) pa_nil)) pa_nil))) (pe_one (pe_call (ok_law_is_no_moment T) hr rfl T.g__law_is_no_moment T.p_law_is_no_moment T.b_law_is_no_moment .nil pass0 (pa_cons (pv 4) (pa_cons (pe_un un_neg pe_int) pa_nil)))))))))))))))))))))))), ?_⟩
  obtain ⟨x, scr, rfl, hx, q⟩ := h
  have so0 := fun (prg : Prg) (s0 : Sta) (act : Act) (po : PrgOk prg) (fo : FstOk prg s0 act) => fo.ok po
  refine ⟨_, rfl, x, scr, rfl, hx, fun H1 S k1 nS ls1 => ?_⟩
  refine ⟨_, rfl, S, rfl, ls1, fun H2 v prg s0 act k2 ls2 pg2 po fo pl => ?_⟩
  refine ⟨_, rfl, S, 9, rfl, ls2, by decide, by decide, fun H3 j k3 ls3 j0 j1 => ⟨_, _, rfl, rfl, ?_⟩⟩
  obtain ⟨n, rfl⟩ : ∃ n : Nat, j = n := ⟨j.toNat, by omega⟩
  have so := fo.ok po
  have pg3 := pg2.mono k3
  refine ⟨_, rfl, _, rfl, rfl, rfl, fun p dxp np ndxp nep => ?_⟩
  have k0 : Kp [] H3 (upd (upd H3 dxp (.own p)) p (.ins (He.ga K "History") dxp [])) := (Kp.refl.new ndxp).own np
  refine ⟨p, dxp, v, 1 + n, prg, s0, act, rfl, upd_same, pg3.mono k0, po, fo, fun H4 le lt dk k4 a4 nle nlt ndk hll => ⟨rfl, ?_⟩⟩
  have k4 : Kp [] H3 H4 := k0.sub k4 fun a m => .inr (by rw [List.mem_singleton.mp m]; exact np)
  have hleS : le ≠ S := ls3.ne (k0.dom _ nle)
  have hltS : lt ≠ S := ls3.ne (k0.dom _ nlt)
  clear nle nlt ndk k0
  refine ⟨_, rfl, v, prg, act, rfl, pg3.mono k4, fo.a0, fo.ha, po.acts _ _ fo.ha, fo.np, fun H5 u k5 su => ⟨by show 1 ≤ sizeLine; decide, fun Ls nLs => ?_⟩⟩
  rw [← fo.s0] at su
  have ls5 := (ls3.keep k4).keep k5
  have a5 := a4.keep k5
  have pg5 := (pg3.mono k4).mono k5
  obtain ⟨xle, ele, _⟩ := id a5.evs
  obtain ⟨xlt, elt, _⟩ := id a5.tds
  have q1 : Ls ≠ S := ls5.ne nLs
  have q2 : le ≠ Ls := ne_of_none ele nLs
  have q3 : lt ≠ Ls := ne_of_none elt nLs
  have kA : Kp [] H5 (upd H5 Ls (.lst [u])) := Kp.refl.new nLs
  have eA : (upd H5 Ls (.lst [u])) Ls = some (.lst [u]) := upd_same
  generalize upd H5 Ls (.lst [u]) = HA at kA eA ⊢
  refine ⟨Nat.zero_le _, fun Le nLe => ?_⟩
  have q4 : Le ≠ S := (ls5.keep kA).ne nLe
  have q5 : le ≠ Le := ne_of_none (kA.same _ _ ele) nLe
  have q6 : lt ≠ Le := ne_of_none (kA.same _ _ elt) nLe
  have q7 : Ls ≠ Le := ne_of_none eA nLe
  have kB : Kp [] HA (upd HA Le (.lst [])) := Kp.refl.new nLe
  have eB : (upd HA Le (.lst [])) Le = some (.lst []) := upd_same
  generalize upd HA Le (.lst []) = HB at kB eB ⊢
  have kAB := kA.trans kB
  refine ⟨Nat.zero_le _, fun Lt nLt => ?_⟩
  have q8 : Lt ≠ S := (ls5.keep kAB).ne nLt
  have q9 : le ≠ Lt := ne_of_none (kAB.same _ _ ele) nLt
  have q10 : lt ≠ Lt := ne_of_none (kAB.same _ _ elt) nLt
  have q11 : Ls ≠ Lt := ne_of_none (kB.same _ _ eA) nLt
  have q12 : Le ≠ Lt := ne_of_none eB nLt
  have kC : Kp [] HB (upd HB Lt (.lst [])) := Kp.refl.new nLt
  have eC : (upd HB Lt (.lst [])) Lt = some (.lst []) := upd_same
  generalize upd HB Lt (.lst []) = HC at kC eC ⊢
  have kABC := kAB.trans kC
  refine ⟨Nat.zero_le _, fun Lf0 nLf => ?_⟩
  have q13 : Lf0 ≠ S := (ls5.keep kABC).ne nLf
  have q14 : le ≠ Lf0 := ne_of_none (kABC.same _ _ ele) nLf
  have q15 : lt ≠ Lf0 := ne_of_none (kABC.same _ _ elt) nLf
  have q16 : Ls ≠ Lf0 := ne_of_none ((kB.trans kC).same _ _ eA) nLf
  have q17 : Le ≠ Lf0 := ne_of_none (kC.same _ _ eB) nLf
  have q18 : Lt ≠ Lf0 := ne_of_none eC nLf
  have kD : Kp [] HC (upd HC Lf0 (.lst [])) := Kp.refl.new nLf
  have eD : (upd HC Lf0 (.lst [])) Lf0 = some (.lst (([] : List Int).map V.int)) := upd_same
  generalize upd HC Lf0 (.lst []) = HD at kD eD ⊢
  have kT := kABC.trans kD
  have a0 : LwAt K HD prg s0 S v p le lt dk Ls Le Lt Lf0 ⟨1 + n, [], [], [0], v⟩ [] := by
    refine ⟨pg5.mono kT, ls5.keep kT, a5.keep kT, hst0_ok (by omega) (by omega), ⟨[u], ((kB.trans kC).trans kD).same _ _ eA, rfl, fun j w e => ?_⟩, ⟨[], (kC.trans kD).same _ _ eB, .nil⟩, ⟨[], kD.same _ _ eC, .nil⟩, eD, ?_, kp0⟩
    · cases j with
      | zero => simp only [List.getElem?_cons_zero] at e; cases e; exact su.mono kT
      | succ j => simp at e
    · simp only [List.nodup_cons, List.mem_cons, List.not_mem_nil, or_false, not_or, List.nodup_nil, and_true, not_false_eq_true]
      exact ⟨⟨Ne.symm q1, Ne.symm q4, Ne.symm q8, Ne.symm q13, Ne.symm hleS, Ne.symm hltS⟩, ⟨q7, q11, q16, Ne.symm q2, Ne.symm q3⟩, ⟨q12, q17, Ne.symm q5, Ne.symm q6⟩, ⟨q18, Ne.symm q9, Ne.symm q10⟩, ⟨Ne.symm q14, Ne.symm q15⟩, hll⟩
  clear eA eB eC eD nLs nLe nLt nLf kAB kABC a4 a5 kA kB kC kD kT q1 q2 q3 q4 q5 q6 q7 q8 q9 q10 q11 q12 q13 q14 q15 q16 q17 q18 ele elt su ls5 pg5
  refine ⟨_, rfl, S, 31, rfl, a0.ls, by decide, by decide, fun H7 tn k7 ls7 t0 t1 => ⟨tn, rfl, by omega, by omega, for_range (lo := 0) (n := tn.toNat) (fun i σ Hc => LwSt K prg s0 x S v (1 + n) p le lt dk Ls Le Lt i i σ Hc) ⟨Lf0, _, [], none, none, none, none, none, none, rfl, rfl, rfl, Nat.le_refl _, Nat.le_refl _, a0.keepS k7 ls7⟩ (fun i σ Hc il st => ?_) fun σ Hc st => ?_⟩⟩
  · obtain ⟨Lf, h, fs, t9, t10, t11, t12, t13, t14, eσ, hev, hpg, hn, hm, a⟩ := st
    subst eσ
    have i30 : i < 30 := by omega
    have evn := a.ok.evs
    obtain ⟨xs, eL, lx, ss⟩ := id a.ss
    obtain ⟨n1, n2, n3, n4, n5, n6⟩ := a.ne
    have nd := a.nd
    simp only [List.nodup_cons, List.mem_cons, List.not_mem_nil, or_false, not_or, List.nodup_nil, and_true, not_false_eq_true] at nd
    obtain ⟨_, ⟨m1, m2, m3, m4, m5⟩, ⟨m6, m7, m8, m9⟩, ⟨m10, m11, m12⟩, ⟨m13, m14⟩, m15⟩ := nd
    obtain ⟨ys, u, rfl⟩ : ∃ ys u, xs = ys ++ [u] := (List.eq_nil_or_concat xs).elim (fun z => by rw [z] at lx; cases lx) fun ⟨ys, y, z⟩ => ⟨ys, y, by rw [z, List.concat_eq_append]⟩
    have ly : ys.length = h.evs.length := by rw [List.length_append] at lx; simp only [List.length_cons, List.length_nil] at lx; omega
    have su : StaAt K Hc u (sAt prg s0 h.evs h.evs.length) := ss _ u (by rw [← ly, List.getElem?_append_right (Nat.le_refl _), Nat.sub_self, List.getElem?_cons_zero])
    have sok := sAt_ok po so evn (by omega) h.evs.length (Nat.le_refl _)
    have ne0 : 0 < (sAt prg s0 h.evs h.evs.length).bgs.length := Nat.lt_of_lt_of_le (by rw [fo.s0]; exact Nat.zero_lt_one) (sAt_ge _)
    obtain ⟨ap, ao, adx, aB, aob, akvs, aw, an, ag, rfl, ea, eB, ks, dw, dn, dg⟩ := id su
    obtain ⟨wA, ow, xw, rfl, ew, dlw⟩ := dw.inv_lst
    obtain ⟨nA, on, xn, rfl, en, dln⟩ := dn.inv_lst
    have lw : xw.length ≤ 3100 := by rw [dlw.length, List.length_map]; have := sok.szs.w; omega
    have ln : xn.length ≤ 3100 := by rw [dln.length, List.length_map]; have := sok.szs.p; omega
    have lb : (sAt prg s0 h.evs h.evs.length).bgs.length ≤ 3100 := by have := sok.szs.b; omega
    refine ⟨_, rfl, _, rfl, Ls, _, _, .ref ap, rfl, rfl, SqL.of eL, atI_last ys _, ?_⟩
    refine ⟨_, rfl, _, rfl, ap, ao, adx, _, _, rfl, ea, rfl, wA, xw, rfl, .inl (.inl (.inr ⟨_, ew⟩)), _, rfl, ap, ao, adx, _, _, rfl, ea, rfl, nA, xn, rfl, .inl (.inl (.inr ⟨_, en⟩)), _, rfl, ap, ao, adx, _, _, rfl, ea, rfl, aB, akvs, rfl, .inr ⟨_, eB⟩, fun r1 bs1 nr1 ik1 => ?_⟩
    obtain ⟨es1, z1, z2, z3⟩ := keysE ks ik1
    have le1 : es1.length = (sAt prg s0 h.evs h.evs.length).bgs.length := by rw [← List.length_map (f := (·.2)), z2, List.length_map]
    have kA : Kp [] Hc (upd Hc r1 (.lst (bs1.map V.ref))) := Kp.refl.new nr1
    refine ⟨r1, es1, rfl, SqL.of (by rw [upd_same, ← z1, List.map_map]; rfl), fun e m => kA.tup _ _ (z3 e m), fun f1 L pm1 so1 nL => ?_⟩
    have kB : Kp [] Hc (upd (upd Hc r1 (.lst (bs1.map V.ref))) L (.lst (f1.map fun e => V.ref e.1))) := kA.new nL
    have eLL : (upd (upd Hc r1 (.lst (bs1.map V.ref))) L (.lst (f1.map fun e => V.ref e.1))) L = some (.lst (f1.map fun e => V.ref e.1)) := upd_same
    have hLS : L ≠ S := a.ls.ne (kA.dom _ nL)
    generalize upd (upd Hc r1 (.lst (bs1.map V.ref))) L (.lst (f1.map fun e => V.ref e.1)) = HB at kB eLL ⊢
    have lf1 : f1.length = (sAt prg s0 h.evs h.evs.length).bgs.length := by rw [pm1.length_eq, le1]
    refine ⟨S, _, _, L, f1, rfl, a.ls.keep kB, by omega, by omega, by omega, by omega, fun Ha k => SqL.of (k.kp _ _ (by simpa using hLS) eLL), fun e m => kB.tup _ _ (z3 e (pm1.mem_iff.mp m)), by omega, by omega, fun H1 evv ev k1 ls1 dv eo => ?_⟩
    have a1 := (a.keep kB).keepS k1 ls1
    have su1 := (su.mono kB).mono k1
    have kinds : Kinds prg (sAt prg s0 h.evs h.evs.length) := fun q b mb => let ⟨a, ha, _⟩ := (sok.bgs q b mb).1.kind; ⟨a, ha⟩
    clear a kA kB eLL nL k1 su ea eB ks dw dn dg dlw dln ew en
    refine ⟨LwSt K prg s0 x S v (1 + n) p le lt dk Ls Le Lt (i + 1) i, ?_, ?_⟩
    · refine ⟨_, rfl, _, rfl, _, rfl, v, _, evv, prg, _, ev, rfl, a1.pg, su1, dv, eo, kinds, fun H2 k2 => ⟨_, rfl, iE (fun ps => ?_) fun np => ?_⟩⟩
      · have a2 := a1.keep k2
        obtain ⟨es2, eE2, dE2⟩ := id a2.es
        have lE : es2.length = h.evs.length := by rw [dE2.length, List.length_map]
        refine ⟨_, rfl, _, rfl, _, rfl, _, rfl, Le, es2, rfl, .inl (SqL.of eE2), v, .ref ap, evv, (es2.length : Nat), prg, _, ev, _, rfl, a2.pg, su1.mono k2, dv.mono k2, po, sok, by omega, eo, fun _ H3 t u2 tv s2 td k3 ea3 et su2 dt => ?_, fun z => ?_⟩
        rotate_left
        · rw [ps] at z; cases z
        rw [lE] at ea3
        have a3 := a2.keep k3
        obtain ⟨es3, eE3, dE3⟩ := id a3.es
        obtain ⟨ts3, eT3, dT3⟩ := id a3.ts
        obtain ⟨xs3, eX3, lx3, ss3⟩ := id a3.ss
        have lE3 : es3.length = h.evs.length := by rw [dE3.length, List.length_map]
        have lT3 : ts3.length = h.evs.length := by rw [dT3.length, List.length_map, a3.ok.tds.1]
        refine ⟨t, _, rfl, SqT.of et, rfl, _, _, rfl, _, _, rfl, rfl, ?_⟩
        refine ⟨_, rfl, .inl ⟨rfl, _, SqL.of eE3⟩, _, rfl, Le, es3, evv, rfl, rfl, eE3, small' (by omega), ?_⟩
        have f1T := (upd_ne (o := .lst (es3 ++ [evv])) (Ne.symm m6)).trans eT3
        refine ⟨_, rfl, .inl ⟨rfl, _, SqL.of f1T⟩, _, rfl, Lt, ts3, tv, rfl, rfl, f1T, small' (by omega), ?_⟩
        have f2X := (upd_ne (o := .lst (ts3 ++ [tv])) m2).trans ((upd_ne (o := .lst (es3 ++ [evv])) m1).trans eX3)
        refine ⟨_, rfl, .inl ⟨rfl, _, SqL.of f2X⟩, _, rfl, Ls, xs3, u2, rfl, rfl, f2X, small' (by omega), ?_⟩
        have kw : Kp [Le, Lt, Ls] H3 (upd (upd (upd H3 Le (.lst (es3 ++ [evv]))) Lt (.lst (ts3 ++ [tv]))) Ls (.lst (xs3 ++ [u2]))) := ((Kp.refl.wr (by simp) eE3).wr (by simp) f1T).wr (by simp) f2X
        have gX : (upd (upd (upd H3 Le (.lst (es3 ++ [evv]))) Lt (.lst (ts3 ++ [tv]))) Ls (.lst (xs3 ++ [u2]))) Ls = some (.lst (xs3 ++ [u2])) := upd_same
        have gT : (upd (upd (upd H3 Le (.lst (es3 ++ [evv]))) Lt (.lst (ts3 ++ [tv]))) Ls (.lst (xs3 ++ [u2]))) Lt = some (.lst (ts3 ++ [tv])) := (upd_ne (Ne.symm m2)).trans upd_same
        have gE : (upd (upd (upd H3 Le (.lst (es3 ++ [evv]))) Lt (.lst (ts3 ++ [tv]))) Ls (.lst (xs3 ++ [u2]))) Le = some (.lst (es3 ++ [evv])) := (upd_ne (Ne.symm m1)).trans ((upd_ne m6).trans upd_same)
        generalize upd (upd (upd H3 Le (.lst (es3 ++ [evv]))) Lt (.lst (ts3 ++ [tv]))) Ls (.lst (xs3 ++ [u2])) = G at kw gX gT gE ⊢
        have gF : G Lf = some (.lst (fs.map V.int)) := kw.kp _ _ (by simp only [List.mem_cons, List.not_mem_nil, or_false, not_or]; exact ⟨Ne.symm m7, Ne.symm m10, Ne.symm m3⟩) a3.fg
        have lsG : LsAt G S := a3.ls.mono kw (by simp only [List.mem_cons, List.not_mem_nil, or_false, not_or]; exact ⟨Ne.symm n2, Ne.symm n3, Ne.symm n1⟩)
        have hsG : HisAt K G prg s0 p le lt dk h := by
          obtain ⟨dx, pv, lv, e, _⟩ := a3.hs.ins
          obtain ⟨kvs, e4, _⟩ := a3.hs.kept
          refine a3.hs.keepL kw ?_ ?_ ?_ ?_
          · simp only [List.mem_cons, List.not_mem_nil, or_false]
            rintro (rfl | rfl | rfl)
            · rw [e] at eE3; cases eE3
            · rw [e] at eT3; cases eT3
            · rw [e] at eX3; cases eX3
          · simp only [List.mem_cons, List.not_mem_nil, or_false, not_or]; exact ⟨Ne.symm m8, Ne.symm m11, Ne.symm m4⟩
          · simp only [List.mem_cons, List.not_mem_nil, or_false, not_or]; exact ⟨Ne.symm m9, Ne.symm m12, Ne.symm m5⟩
          · simp only [List.mem_cons, List.not_mem_nil, or_false]
            rintro (rfl | rfl | rfl)
            · rw [e4] at eE3; cases eE3
            · rw [e4] at eT3; cases eT3
            · rw [e4] at eX3; cases eX3
        have out : ∀ {X : Addr} {l : List V}, G X = some (.lst l) → X ≠ le → X ≠ lt → X ∉ [p, le, lt, dk] := fun {X l} eX d1 d2 => by
          obtain ⟨dx, pv, lv, e, _⟩ := hsG.ins
          obtain ⟨kvs, e4, _⟩ := hsG.kept
          simp only [List.mem_cons, List.not_mem_nil, or_false, not_or]
          refine ⟨fun z => ?_, d1, d2, fun z => ?_⟩
          · rw [z, e] at eX; cases eX
          · rw [z, e4] at eX; cases eX
        have dvG := ((dv.mono k2).mono k3).mono kw
        refine ⟨_, rfl, _, rfl, p, le, lt, dk, h, prg, s0, evv, ev, rfl, hsG, m15, a3.ok, by omega, po, so, dvG, eo, fun _ H4 tv2 td2 s3 k4 ea4 dt4 hs4 => ?_, fun z => ?_⟩
        rotate_left
        · rw [ps] at z; cases z
        rw [ea3] at ea4
        cases ea4
        have dtG := dt.mono kw
        refine ⟨_, rfl, eq2_td dt4 (dtG.mono k4), _, rfl, iF rfl ?_⟩
        obtain ⟨_, _, _, _, _, _, _, eSG, _⟩ := id lsG
        have lv : (h.add ev td).evs.length = h.evs.length + 1 := by show (h.evs ++ [ev]).length = _; rw [List.length_append]; rfl
        have hvs : (h.evs ++ [ev])[h.evs.length]? = some ev := by rw [List.getElem?_append_right (Nat.le_refl _), Nat.sub_self, List.getElem?_cons_zero]
        refine ⟨Lf, h.add ev td, fs, _, _, _, _, _, _, rfl, hev, hpg, by omega, hm, ⟨((a3.pg.mono kw).mono k4), lsG.mono k4 (out eSG (Ne.symm n5) (Ne.symm n6)), hs4, a3.ok.add (by omega) ps eo ea3, ⟨_, k4.kp _ _ (out gX m4 m5) gX, by rw [lv, List.length_append, lx3]; rfl, ?_⟩, ⟨_, k4.kp _ _ (out gE m8 m9) gE, ?_⟩, ⟨_, k4.kp _ _ (out gT m11 m12) gT, ?_⟩, k4.kp _ _ (out gF m13 m14) gF, a3.nd, a3.kp.add⟩⟩
        · refine SsAt.add (((ss3.mono kw).mono k4).more (by omega)) ?_
          rw [lx3]
          have e9 : sAt prg s0 (h.evs ++ [ev]) (h.evs.length + 1) = s2 := sAt_succ hvs (by rw [sAt_app (Nat.le_refl _)]; exact ea3)
          show StaAt K H4 u2 (sAt prg s0 (h.evs ++ [ev]) (h.evs.length + 1))
          rw [e9]
          exact (su2.mono kw).mono k4
        · show Dl H4 _ ((h.evs ++ [ev]).map evD)
          rw [List.map_append]
          exact Dl.append ((dE3.mono kw).mono k4) (.cons (dvG.mono k4) .nil)
        · show Dl H4 _ ((h.tds ++ [td]).map tdD)
          rw [List.map_append]
          exact Dl.append ((dT3.mono kw).mono k4) (.cons (dtG.mono k4) .nil)
      · have a2 := a1.keep k2
        refine ⟨_, rfl, _, rfl, p, le, lt, dk, h, prg, s0, evv, ev, rfl, a2.hs, m15, a2.ok, by omega, po, so, dv.mono k2, eo, fun z => ?_, fun _ H3 t k3 et => ?_⟩
        · rw [np] at z; cases z
        refine ⟨_, rfl, by show 2 ≤ sizeLine; decide, fun t2 nt2 => ⟨eq2_imp (((dv.mono k2).mono k3).new nt2) ((Kp.refl (L := []).new nt2).tup _ _ et) upd_same, _, rfl, iF rfl ?_⟩⟩
        exact ⟨Lf, h, fs, _, _, _, _, _, _, rfl, hev, hpg, by omega, hm, (a2.keep k3).keep (Kp.refl.new nt2)⟩
    · rintro σ Hm ⟨Lf, h, fs, t9, t10, t11, t12, t13, t14, eσ, hev, hpg, hn, hm, a⟩
      subst eσ
      obtain ⟨xs, eL, lx, ss⟩ := id a.ss
      obtain ⟨n1, n2, n3, n4, n5, n6⟩ := a.ne
      refine ⟨LwSt K prg s0 x S v (1 + n) p le lt dk Ls Le Lt (i + 1) (i + 1), ?_, ?_⟩
      · refine ⟨_, rfl, S, 4, rfl, a.ls, by decide, by decide, fun H2 j k2 ls2 _ _ => ⟨rfl, _, rfl, iE (fun _ => ?_) fun _ => ?_⟩⟩
        · have a2 := a.keepS k2 ls2
          refine ⟨_, rfl, S, 4, rfl, ls2, by decide, by decide, fun H3 c k3 ls3 c0 c1 => ⟨c, rfl, by omega, by omega, fun D nD => lc_range (lo := 0) (n := c.toNat) (fun i Hc => ∃ ms : List Int, LwAt K Hc prg s0 S v p le lt dk Ls Le Lt Lf h fs ∧ Hc D = some (.lst (ms.map V.int)) ∧ ms.length = i) ⟨[], (a2.keepS k3 ls3).keep (Kp.refl.new nD), upd_same, rfl⟩ (fun i Hc il ⟨ms, ac, eD, lb⟩ => ?_) fun Hc ⟨ms, ac, eD, lb⟩ => ?_⟩⟩
          · refine ⟨rfl, iT (B := ∃ ms : List Int, LwAt K Hc prg s0 S v p le lt dk Ls Le Lt Lf h fs ∧ Hc D = some (.lst (ms.map V.int)) ∧ ms.length = i + 1) rfl ?_⟩
            obtain ⟨xs2, eL2, lx2, _⟩ := id ac.ss
            have few := ac.ok.few
            refine ⟨_, rfl, _, rfl, Ls, _, rfl, .inl (SqL.of eL2), _, _, rfl, rfl, S, _, rfl, ac.ls, by omega, by omega, fun Hz m kz lz _ _ => ⟨_, _, rfl, rfl, ?_⟩⟩
            have hDS : D ≠ S := ls3.ne nD
            have eD2 := kz.kp D _ (by simpa using hDS) eD
            have az := ac.keepS kz lz
            refine ⟨_, eD2, by rw [List.length_map, lb]; exact small' (by omega), ms ++ [m - 1], ?_, by rw [upd_same, List.map_append]; rfl, by rw [List.length_append, lb]; rfl⟩
            obtain ⟨w1, w2, w3, w4⟩ : Ls ≠ D ∧ Le ≠ D ∧ Lt ≠ D ∧ Lf ≠ D := by
              have a3 := a2.keepS k3 ls3
              obtain ⟨_, b1, _⟩ := a3.ss
              obtain ⟨_, b2, _⟩ := a3.es
              obtain ⟨_, b3, _⟩ := a3.ts
              exact ⟨ne_of_none b1 nD, ne_of_none b2 nD, ne_of_none b3 nD, ne_of_none a3.fg nD⟩
            have w5 : p ≠ D ∧ le ≠ D ∧ lt ≠ D ∧ dk ≠ D := by
              have a3 := (a2.keepS k3 ls3).hs
              obtain ⟨_, _, _, b1, _⟩ := a3.ins
              obtain ⟨_, b2, _⟩ := a3.evs
              obtain ⟨_, b3, _⟩ := a3.tds
              obtain ⟨_, b4, _⟩ := a3.kept
              exact ⟨ne_of_none b1 nD, ne_of_none b2 nD, ne_of_none b3 nD, ne_of_none b4 nD⟩
            have kw : Kp [D] Hz (upd Hz D (.lst (ms.map V.int ++ [V.int (m - 1)]))) := Kp.refl.wr (by simp) eD2
            exact az.keepD kw (Ne.symm hDS) w1 w2 w3 w4 w5.1 w5.2.1 w5.2.2.1 w5.2.2.2
          · have hDk : D ≠ dk := fun z => by
              obtain ⟨_, b4, _⟩ := ac.hs.kept
              rw [← z, eD] at b4
              cases b4
            obtain ⟨dx, pv, lv, e, _⟩ := id ac.hs.ins
            refine ⟨_, rfl, p, dx, _, rfl, .inl e, rfl, _, rfl, p, le, lt, dk, h, prg, s0, D, ms, rfl, ac.hs, fun Ha k => SqL.of (k.kp _ _ (by simpa using hDk) eD), fun H5 k5 hs5 => ?_⟩
            have eD5 := k5.kp D _ (by simpa using hDk) eD
            have a5 : LwAt K H5 prg s0 S v p le lt dk Ls Le Lt Lf { h with kept := forgetL h.kept ms } (fs ++ ms.filter fun m => decide (m < (h.evs.length : Int) + 1)) → True := fun _ => trivial
            obtain ⟨xs5, eX, lX, sX⟩ := id ac.ss
            obtain ⟨es5, eE, dE⟩ := id ac.es
            obtain ⟨ts5, eT, dT⟩ := id ac.ts
            have off : ∀ {X : Addr} {l : List V}, Hc X = some (.lst l) → X ∉ [dk] := fun {X l} eX => by
              obtain ⟨_, b4, _⟩ := ac.hs.kept
              simp only [List.mem_cons, List.not_mem_nil, or_false]
              intro z
              rw [z, b4] at eX
              cases eX
            have gL := k5.kp _ _ (off eX) eX
            have gF := k5.kp _ _ (off ac.fg) ac.fg
            refine ⟨_, rfl, _, rfl, D, rfl, ⟨_, SqL.of eD5⟩, fun D2 nD2 => lc_list (xs := ms.map V.int) (fun i Hd => Kp [] H5 Hd ∧ Hd D2 = some (.lst (((ms.take i).filter fun m => decide (m < (h.evs.length : Int) + 1)).map V.int))) ⟨Kp.refl.new nD2, upd_same⟩ (fun i Hd _ ⟨kd, _⟩ => SqL.of (kd.same _ _ eD5)) (fun i w Hd hw ⟨kd, e2⟩ => ?_) fun Hd ⟨kd, e2⟩ => ?_⟩
            · rw [List.getElem?_map] at hw
              obtain ⟨m, hm1, rfl⟩ := Option.map_eq_some_iff.mp hw
              have lt9 : i < ms.length := (List.getElem?_eq_some_iff.mp hm1).1
              have tk : ms.take (i + 1) = ms.take i ++ [m] := by rw [List.take_add_one, hm1]; rfl
              refine ⟨rfl, _, rfl, _, rfl, Ls, _, rfl, .inl (SqL.of (kd.same _ _ gL)), _, _, rfl, rfl, _, rfl, ?_⟩
              rw [lX]
              by_cases c9 : m < ((h.evs.length + 1 : Nat) : Int)
              · refine iT (decide_eq_true c9) ⟨_, rfl, _, e2, ?_, kd.own nD2, ?_⟩
                · rw [List.length_map]
                  refine small' (Nat.le_trans (List.length_filter_le _ _) ?_)
                  rw [List.length_take]
                  omega
                · rw [upd_same, tk, List.filter_append, List.map_append, List.filter_cons, if_pos (decide_eq_true (by omega))]
                  rfl
              · refine iF (decide_eq_false c9) ⟨kd, ?_⟩
                rw [tk, List.filter_append, List.filter_cons, if_neg (by rw [decide_eq_true_eq]; omega)]
                simpa using e2
            · rw [List.length_map, List.take_length] at e2
              have gF6 := kd.same _ _ gF
              have lm : ms.length ≤ 3 := by omega
              refine ⟨Lf, D2, _, _, rfl, rfl, .inl gF6, .inl e2, ?_, fun Lg nLg => ?_⟩
              · rw [List.length_map, List.length_map]
                refine small (Nat.le_trans (Nat.add_le_add_left (List.length_filter_le _ _) _) ?_)
                omega
              have kz := kd.new (o := .lst (fs.map V.int ++ (ms.filter fun m => decide (m < (h.evs.length : Int) + 1)).map V.int)) nLg
              have hs6 := hs5.keep kd
              obtain ⟨_, b1, _⟩ := hs6.evs
              obtain ⟨_, b2, _⟩ := hs6.tds
              have lsd : LsAt Hd S := (ac.ls.mono k5 (by
                obtain ⟨_, _, _, _, _, _, _, eS, _⟩ := ac.ls
                exact off eS)).keep kd
              have nd := ac.nd
              simp only [List.nodup_cons, List.mem_cons, List.not_mem_nil, or_false, not_or, List.nodup_nil, and_true, not_false_eq_true] at nd
              obtain ⟨⟨r1, r2, r3, r4, r5, r6⟩, ⟨m1, m2, m3, m4, m5⟩, ⟨m6, m7, m8, m9⟩, ⟨m10, m11, m12⟩, ⟨m13, m14⟩, m15⟩ := nd
              refine ⟨Lg, { h with kept := forgetL h.kept ms }, fs ++ ms.filter fun m => decide (m < (h.evs.length : Int) + 1), _, _, _, _, _, _, rfl, hev, hpg, hn, ?_, ⟨(ac.pg.mono k5).mono kz, lsd.new nLg, hs5.keep kz, ac.ok.forget, ⟨xs5, kz.same _ _ gL, lX, (sX.mono k5).mono kz⟩, ⟨es5, kz.same _ _ (k5.kp _ _ (off eE) eE), (dE.mono k5).mono kz⟩, ⟨ts5, kz.same _ _ (k5.kp _ _ (off eT) eT), (dT.mono k5).mono kz⟩, by rw [upd_same, List.map_append], ?_, ac.kp.forget⟩⟩
              · rw [List.length_append]
                have := List.length_filter_le (fun m => decide (m < (h.evs.length : Int) + 1)) ms
                omega
              · simp only [List.nodup_cons, List.mem_cons, List.not_mem_nil, or_false, not_or, List.nodup_nil, and_true, not_false_eq_true]
                exact ⟨⟨r1, r2, r3, Ne.symm (lsd.ne nLg), r5, r6⟩, ⟨m1, m2, ne_of_none (kd.same _ _ gL) nLg, m4, m5⟩, ⟨m6, ne_of_none (kd.same _ _ (k5.kp _ _ (off eE) eE)) nLg, m8, m9⟩, ⟨ne_of_none (kd.same _ _ (k5.kp _ _ (off eT) eT)) nLg, m11, m12⟩, ⟨Ne.symm (ne_of_none b1 nLg), Ne.symm (ne_of_none b2 nLg)⟩, m15⟩
        · exact ⟨Lf, h, fs, _, _, _, _, _, _, rfl, hev, hpg, hn, by omega, a.keepS k2 ls2⟩
      · rintro σ Hn ⟨Lf, h, fs, t9, t10, t11, t12, t13, t14, eσ, hev, hpg, hn, hm, a⟩
        subst eσ
        obtain ⟨xs, eL, lx, ss⟩ := id a.ss
        obtain ⟨n1, n2, n3, n4, n5, n6⟩ := a.ne
        refine ⟨_, rfl, S, 3, rfl, a.ls, by decide, by decide, fun H2 j k2 ls2 _ _ => ⟨rfl, _, rfl, iE (fun _ => ?_) fun _ => ?_⟩⟩
        · have a2 := a.keepS k2 ls2
          obtain ⟨xs2, eL2, lx2, ss2⟩ := id a2.ss
          exact ⟨_, rfl, _, rfl, _, rfl, S, p, Ls, le, lt, dk, h, prg, s0, xs2, rfl, ls2, a2.hs, a2.ok, po, so, n5, n6, n1, eL2, lx2, ss2, fun H3 k3 ls3 => ⟨_, rfl, iF rfl ⟨Lf, h, fs, _, _, _, _, _, _, rfl, hev, hpg, hn, hm, a2.keepS k3 ls3⟩⟩⟩
        · exact ⟨Lf, h, fs, _, _, _, _, _, _, rfl, hev, hpg, hn, hm, a.keepS k2 ls2⟩
  · obtain ⟨Lf, h, fs, t9, t10, t11, t12, t13, t14, eσ, hev, hpg, hn, hm, a⟩ := st
    subst eσ
    have few : h.evs.length ≤ 30 := by omega
    have e1 := a.ok.ev1
    have toS : ∀ {m : Nat}, m ≤ h.evs.length → StaOk prg (100 * (m + 1)) (sAt prg s0 h.evs m) := fun {m} hm => sAt_ok po so a.ok.evs (by omega) m hm
    obtain ⟨xs, eL, lx, ss⟩ := id a.ss
    refine ⟨_, rfl, Ls, _, rfl, .inl (SqL.of eL), _, rfl, by omega, by omega, for_range (lo := 0) (n := xs.length) (fun i σ Hd => ∃ t15, σ = [some (.ref x), some (.ref S), some v, some (.int ((1 + n : Nat) : Int)), some (.ref p), some (.ref Ls), some (.ref Le), some (.ref Lt), some (.ref Lf), t9, t10, t11, t12, t13, t14, t15, none, none, none, none, none] ∧ Kp [] Hc Hd) ⟨none, rfl, Kp.refl⟩ (fun i σ Hd il ⟨t15, eσ, kd⟩ => ?_) fun σ Hd ⟨t15, eσ, kd⟩ => ?_⟩
    · subst eσ
      have hd := (a.keep kd).hs
      obtain ⟨dx, pv, lv, e, _⟩ := id hd.ins
      have z0 : (0 : Int) + (i : Nat) = (i : Nat) := Int.zero_add _
      rw [z0]
      obtain ⟨y, hy⟩ : ∃ y, xs[i]? = some y := ⟨xs[i]'(by omega), List.getElem?_eq_getElem (by omega)⟩
      refine ⟨_, rfl, p, dx, _, rfl, .inl e, rfl, _, rfl, p, le, lt, dk, h, prg, s0, (i : Nat), rfl, hd, a.ok, po, so, fun _ Ha u k su => ?_, fun y => absurd ⟨by omega, by omega⟩ y⟩
      have kk := kd.trans k
      exact ⟨_, rfl, _, rfl, Ls, _, _, y, rfl, rfl, SqL.of (kk.same _ _ eL), atI_nat hy, u, y, sAt prg s0 h.evs i, prg, _, rfl, su, (ss i y hy).mono kk, toS (by omega), by omega, fun Hb kb => ⟨_, rfl, iF rfl ⟨_, rfl, kk.trans kb⟩⟩⟩
    · subst eσ
      have a2 := a.keep kd
      clear eL lx ss xs
      obtain ⟨xs, eL, lx, ss⟩ := id a2.ss
      obtain ⟨rg, hn9⟩ := steps (L := xs.length) (ev := 1 + n) (by omega) (by omega) (by omega) (by omega)
      refine ⟨_, rfl, Ls, _, rfl, .inl (SqL.of eL), _, rfl, 0, _, _, _, rfl, rg, fun D nD => lc_rangeC (lo := 0) (c := ((1 + n : Nat) : Int)) (n := (xs.length - 1) / (1 + n) + 1) (fun i He => Kp [] Hd He ∧ He D = some (.lst ((dueL (1 + n) fs i).map V.int))) ⟨Kp.refl.new nD, upd_same⟩ (fun i He il ⟨ke, eD⟩ => ?_) fun He ⟨ke, eD⟩ => ?_⟩
      · have z0 : (0 : Int) + ((i : Nat) : Int) * ((1 + n : Nat) : Int) = ((i : Nat) : Int) * ((1 + n : Nat) : Int) := Int.zero_add _
        rw [z0]
        have sz : ((dueL (1 + n) fs i).map V.int).length < sizeLine := by
          rw [List.length_map]
          refine small' (Nat.le_trans (List.length_filter_le _ _) ?_)
          rw [List.length_map, List.length_range]
          have := (hn9 i).mp il
          have := Nat.le_mul_of_pos_right i (show 0 < 1 + n by omega)
          omega
        have ds := dueL_succ (ev := 1 + n) (fs := fs) (n := i)
        have yes : ((i : Int) * ((1 + n : Nat) : Int) = 0 ∨ (i : Int) * ((1 + n : Nat) : Int) ∉ fs) → Kp [] Hd (upd He D (.lst ((dueL (1 + n) fs i).map V.int ++ [V.int ((i : Int) * ((1 + n : Nat) : Int))]))) ∧ (upd He D (.lst ((dueL (1 + n) fs i).map V.int ++ [V.int ((i : Int) * ((1 + n : Nat) : Int))]))) D = some (.lst ((dueL (1 + n) fs (i + 1)).map V.int)) := fun c => ⟨ke.own nD, by rw [upd_same, ds, if_pos c, List.map_append]; rfl⟩
        refine ⟨rfl, _, rfl, rfl, _, rfl, iE (fun c1 => ?_) fun c1 => ⟨_, rfl, _, rfl, Lf, _, rfl, .inl (SqL.of (ke.same _ _ a2.fg)), rfl, List.all_eq_true.mpr (fun y hy => by obtain ⟨z, _, rfl⟩ := List.mem_map.mp hy; rfl), _, rfl, iE (fun c2 => ?_) fun c2 => ?_⟩⟩
        · have c1 := V.int.inj (of_decide_eq_true c1)
          exact iT rfl ⟨_, rfl, _, eD, sz, yes (.inl c1)⟩
        · have c2 : (!inV (V.int ((i : Int) * ((1 + n : Nat) : Int))) (fs.map V.int)) = true := c2
          rw [inV_ints] at c2
          exact iT (B := True) rfl ⟨_, rfl, _, eD, sz, yes (.inr (by simpa using c2))⟩
        · have c2 : (!inV (V.int ((i : Int) * ((1 + n : Nat) : Int))) (fs.map V.int)) = false := c2
          rw [inV_ints] at c2
          have c1 : ¬ (i : Int) * ((1 + n : Nat) : Int) = 0 := fun z => by rw [z] at c1; simp at c1
          exact iF (A := True) rfl ⟨ke, by rw [eD, ds, if_neg (by rintro (z | z); exact c1 z; exact z (by simpa using c2))]⟩
      · have a3 := a2.keep ke
        obtain ⟨dx, pv, lv, e, _⟩ := id a3.hs.ins
        refine ⟨_, rfl, p, dx, _, rfl, e, rfl, p, le, lt, dk, h, prg, s0, rfl, a3.hs, by have := a3.ok.kl; omega, fun Hf l ns kf el pm so2 => ?_⟩
        have nsd : ns = dueL (1 + n) fs ((xs.length - 1) / (1 + n) + 1) := by
          have := due_is a3.kp e1 (n := (xs.length - 1) / (1 + n) + 1) (fun i => by rw [hn9 i, hev]; omega) a3.ok.nd pm so2
          rw [hev] at this
          exact this
        rw [nsd] at el
        refine ⟨_, rfl, eq2_ints (SqL.of el) (SqL.of (kf.same _ _ eD)), _, rfl, iF rfl ?_⟩
        clear eD el nsd pm so2
        have a4 := a3.keep kf
        obtain ⟨dx4, pv4, lv4, e4, _⟩ := id a4.hs.ins
        refine ⟨_, rfl, p, dx4, _, rfl, e4, rfl, p, le, lt, dk, h, prg, s0, rfl, a4.hs, fun l1 x1 nl1 d1 => ?_⟩
        have kg : Kp [] Hf (upd Hf l1 (.lst x1)) := Kp.refl.new nl1
        have eg : (upd Hf l1 (.lst x1)) l1 = some (.lst x1) := upd_same
        have dg := d1.mono kg
        generalize upd Hf l1 (.lst x1) = Hg at kg eg dg ⊢
        have a5 := a4.keep kg
        obtain ⟨es5, eE5, dE5⟩ := id a5.es
        have dpE : dptL (h.evs.map evD) ≤ 60 := Nat.le_trans (dptL_map dpt_ev _) (by decide)
        have dpT : dptL (h.tds.map tdD) ≤ 60 := Nat.le_trans (dptL_map dpt_td _) (by decide)
        refine ⟨_, rfl, eq2_seq dpE (SqL.of eg) (SqL.of eE5) dg dE5, _, rfl, iF rfl ?_⟩
        obtain ⟨dx5, pv5, lv5, e5, _⟩ := id a5.hs.ins
        refine ⟨_, rfl, p, dx5, _, rfl, e5, rfl, p, le, lt, dk, h, prg, s0, rfl, a5.hs, fun l2 x2 nl2 d2 => ?_⟩
        have ki : Kp [] Hg (upd Hg l2 (.lst x2)) := Kp.refl.new nl2
        have ei : (upd Hg l2 (.lst x2)) l2 = some (.lst x2) := upd_same
        have di := d2.mono ki
        generalize upd Hg l2 (.lst x2) = Hi at ki ei di ⊢
        have a6 := a5.keep ki
        obtain ⟨ts6, eT6, dT6⟩ := id a6.ts
        refine ⟨_, rfl, eq2_seq dpT (SqL.of ei) (SqL.of eT6) di dT6, _, rfl, iF rfl ?_⟩
        obtain ⟨dx6, pv6, lv6, e6, ⟨pg6, epv6⟩, _⟩ := id a6.hs.ins
        obtain rfl : pv6 = v := epv6.trans hpg
        refine ⟨_, rfl, p, dx6, _, _, rfl, e6, rfl, _, rfl, _, prg, rfl, a6.pg, pl, fun Hj kj => ⟨_, rfl, iF rfl ?_⟩⟩
        have a7 := a6.keep kj
        clear a3 a4 a5 a6 ke kf kg ki kj e e4 e5 e6 eE5 dE5 eT6 dT6 eg dg ei di d1 d2 nl1 nl2
        obtain ⟨xs7, eL7, lx7, ss7⟩ := id a7.ss
        obtain ⟨es7, eE7, dE7⟩ := id a7.es
        refine ⟨_, rfl, _, rfl, Le, _, rfl, .inl (SqL.of eE7), fun l5 nl5 => ?_⟩
        have kl5 : Kp [] Hj (upd Hj l5 (.lst es7)) := Kp.refl.new nl5
        have el5 : (upd Hj l5 (.lst es7)) l5 = some (.lst es7) := upd_same
        generalize upd Hj l5 (.lst es7) = Hk at kl5 el5 ⊢
        refine ⟨pv6, l5, prg, s0, act, h.evs, es7, rfl, a7.pg.mono kl5, po, fo, a.ok.evs, by omega, fun Ha k => SqL.of (k.same _ _ el5), dE7.mono kl5, fun Hh wl xw kh nwl ewl lxw ssw => ?_⟩
        have a8 := (a7.keep kl5).keep kh
        clear eL lx ss rg hn9 eL7 lx7 ss7 eE7 dE7 el5 nl5
        obtain ⟨xs, eL, lx, ss⟩ := id a8.ss
        refine ⟨_, rfl, wl, _, rfl, .inl (SqL.of ewl), _, rfl, Ls, _, rfl, .inl (SqL.of eL), rfl, _, rfl, iF (nT (by rw [lxw, lx])) ?_⟩
        refine ⟨_, rfl, Ls, _, rfl, .inl (SqL.of eL), _, rfl, by omega, by omega, fun D7 nD7 => lc_range (lo := 0) (n := xs.length) (fun i Hi => Kp [] Hh Hi ∧ Hi D7 = some (.lst ((List.replicate i true).map V.bl))) ⟨Kp.refl.new nD7, upd_same⟩ (fun i Hi il ⟨ki, eDi⟩ => ?_) fun Hi ⟨ki, eDi⟩ => ?_⟩
        · have z0 : (0 : Int) + (i : Nat) = (i : Nat) := Int.zero_add _
          rw [z0]
          obtain ⟨y1, hy1⟩ : ∃ y, xw[i]? = some y := ⟨xw[i]'(by omega), List.getElem?_eq_getElem (by omega)⟩
          obtain ⟨y2, hy2⟩ : ∃ y, xs[i]? = some y := ⟨xs[i]'(by omega), List.getElem?_eq_getElem (by omega)⟩
          refine ⟨rfl, iT (B := True) rfl ⟨_, rfl, _, rfl, wl, xw, _, y1, rfl, rfl, SqL.of (ki.same _ _ ewl), atI_nat hy1, _, rfl, _, rfl, Ls, xs, _, y2, rfl, rfl, SqL.of (ki.same _ _ eL), atI_nat hy2, y1, y2, sAt prg s0 h.evs i, prg, _, rfl, (ssw i y1 hy1).mono ki, (ss i y2 hy2).mono ki, toS (by omega), by omega, fun Hq kq => ⟨_, kq.same _ _ eDi, by rw [List.length_map, List.length_replicate]; exact small' (by omega), (ki.trans kq).own nD7, ?_⟩⟩⟩
          rw [upd_same, List.replicate_succ', List.map_append]
          rfl
        · refine ⟨D7, _, rfl, SqL.of eDi, _, rfl, iF (by simp) ?_⟩
          have a9 := a8.keep ki
          clear eDi nD7 ewl nwl ssw
          have eL9 := ki.same _ _ eL
          refine ⟨_, rfl, _, rfl, Ls, _, rfl, .inl (SqL.of eL9), S, _, rfl, a9.ls, by omega, by omega, fun H8 j8 k8 ls8 j80 j81 => ?_⟩
          obtain ⟨m8, rfl⟩ : ∃ m : Nat, j8 = m := ⟨j8.toNat, by omega⟩
          have b := a9.keepS k8 ls8
          clear eL9
          obtain ⟨dx, pv, lv, e, _⟩ := id b.hs.ins
          refine ⟨_, rfl, p, dx, _, rfl, .inl e, rfl, _, rfl, p, le, lt, dk, h, prg, s0, (m8 : Nat), act, rfl, b.hs, b.ok, po, fo, fun _ H9 xh le2 lt2 dk2 h2 k9 a9' ok9 ev9 => ?_, fun y => absurd ⟨by omega, by omega⟩ y⟩
          have ev9 : h2.evs = h.evs.take m8 := ev9
          have b2 := b.keep k9
          obtain ⟨dx2, pv2, lv2, e2, _⟩ := id a9'.ins
          refine ⟨_, rfl, xh, dx2, _, rfl, e2, rfl, xh, le2, lt2, dk2, h2, prg, s0, rfl, a9', fun l1 x1 nl1 d1 => ?_⟩
          have kg : Kp [] H9 (upd H9 l1 (.lst x1)) := Kp.refl.new nl1
          have eg : (upd H9 l1 (.lst x1)) l1 = some (.lst x1) := upd_same
          have dg := d1.mono kg
          generalize upd H9 l1 (.lst x1) = Hg at kg eg dg ⊢
          have b3 := b2.keep kg
          obtain ⟨es3, eE3, dE3⟩ := id b3.es
          refine ⟨_, rfl, _, rfl, (m8 : Nat), rfl, Le, es3, rfl, SqL.of eE3, fun l2 nl2 => ?_⟩
          rw [cut_to es3 (by omega : (0 : Int) ≤ (m8 : Nat))]
          have kh2 : Kp [] Hg (upd Hg l2 (.lst (es3.take ((m8 : Nat) : Int).toNat))) := Kp.refl.new nl2
          have eh2 : (upd Hg l2 (.lst (es3.take ((m8 : Nat) : Int).toNat))) l2 = some (.lst (es3.take ((m8 : Nat) : Int).toNat)) := upd_same
          generalize upd Hg l2 (.lst (es3.take ((m8 : Nat) : Int).toNat)) = Hl at kh2 eh2 ⊢
          have eh2 : Hl l2 = some (.lst (es3.take m8)) := eh2
          have dh2 : Dl Hl (es3.take m8) ((h.evs.take m8).map evD) := by
            rw [List.map_take]
            exact (dE3.take m8).mono kh2
          have dg : Dl Hg x1 (h2.evs.map evD) := dg
          rw [ev9] at dg
          have dpE2 : dptL ((h.evs.take m8).map evD) ≤ 60 := Nat.le_trans (dptL_map dpt_ev _) (by decide)
          refine ⟨eq2_seq dpE2 (SqL.of (kh2.same _ _ eg)) (SqL.of eh2) (dg.mono kh2) dh2, _, rfl, iF rfl ?_⟩
          have b4 := b3.keep kh2
          obtain ⟨dx4, pv4, lv4, e4, _⟩ := id b4.hs.ins
          refine ⟨_, rfl, p, dx4, _, rfl, e4, rfl, p, le, lt, dk, h, prg, s0, rfl, b4.hs, fun l3 x3 nl3 d3 => ?_⟩
          have ki3 : Kp [] Hl (upd Hl l3 (.lst x3)) := Kp.refl.new nl3
          have ei3 : (upd Hl l3 (.lst x3)) l3 = some (.lst x3) := upd_same
          have di3 := d3.mono ki3
          generalize upd Hl l3 (.lst x3) = Hm at ki3 ei3 di3 ⊢
          have b5 := b4.keep ki3
          obtain ⟨es5, eE5, dE5⟩ := id b5.es
          refine ⟨_, rfl, eq2_seq dpE (SqL.of ei3) (SqL.of eE5) di3 dE5, _, rfl, iF rfl ?_⟩
          have a10 := ((a9'.keep kg).keep kh2).keep ki3
          obtain ⟨dx5, pv5, lv5, e5, _⟩ := id a10.ins
          have l9 : h2.evs.length = m8 := by rw [ev9, List.length_take]; omega
          refine ⟨_, rfl, xh, dx5, _, rfl, .inl e5, rfl, _, rfl, xh, le2, lt2, dk2, h2, prg, s0, (m8 : Nat), rfl, a10, ok9, po, so, fun _ Hn u kn su => ?_, fun y => absurd ⟨by omega, by omega⟩ y⟩
          have b6 := b5.keep kn
          obtain ⟨xs6, eL6, lx6, ss6⟩ := id b6.ss
          obtain ⟨y, hy⟩ : ∃ y, xs6[m8]? = some y := ⟨xs6[m8]'(by omega), List.getElem?_eq_getElem (by omega)⟩
          have su : StaAt K Hn u (sAt prg s0 h.evs m8) := by
            have su2 : StaAt K Hn u (sAt prg s0 h2.evs m8) := su
            rw [ev9, sAt_take (Nat.le_refl _) (by omega)] at su2
            exact su2
          refine ⟨_, rfl, _, rfl, Ls, _, _, y, rfl, rfl, SqL.of eL6, atI_nat hy, u, y, sAt prg s0 h.evs m8, prg, _, rfl, su, ss6 m8 y hy, toS (by omega), by omega, fun Ho ko => ⟨_, rfl, iF rfl ?_⟩⟩
          have b7 := b6.keep ko
          obtain ⟨xs7, eL7, lx7, ss7⟩ := id b7.ss
          refine ⟨_, rfl, _, rfl, Ls, _, rfl, .inl (SqL.of eL7), p, le, lt, dk, h, prg, s0, _, act, rfl, b7.hs, b7.ok, po, fo, by omega, fun Hp1 kp1 => ⟨true, rfl, iT rfl ?_⟩⟩
          exact ⟨_, rfl, _, rfl, p, le, lt, dk, h, prg, s0, _, act, rfl, b7.hs.keep kp1, b7.ok, po, fo, by omega, fun Hp2 kp2 => q Hp2⟩

end
end Rk
/-! The end: the law's promise, over what the top leaves. -/
namespace Rk
open PySem PySem.Spec PyProof.Rows L2
theorem walk_ofEW {l : PySem.W.OpenLaw} {n k : Nat} {q : Program} {loose : List Str} {XP : (Str → Option Value) → Heap → Prop} {YP : World → Heap → Prop} {d : DefRec} {CX : World → CXT} {x : Str}
    (hn : l.most = some n) (hn2 : n ≤ sizeLine) (hdf : d.params.defaults = []) (hr : Room k callerA)
    (F : ∀ (w : World) (mg : Str → Option Value) (fa : Addr) (h : Heap), YP w h → h.Ns mainGlobals mg → mg d.name = some (.ref fa) →
      ∃ (K : PySem.W.Frag) (fd : FuncData) (sp : Sp), K.In h ∧ (∀ (s : Shared) (u : Value), BindsTo s fd ⟨[u], []⟩ [(x, u)]) ∧
        (∀ (H : Hp) (a : Addr) (ns : List Int), ns.length ≤ n → Only H → SqL K H a (ns.map V.int) → sp [.ref a] H (fun v _ => v = .bl true) fun _ _ _ => False) ∧
        ∀ base : Heap, K.In base → base.Ns mainGlobals mg → FnOk l.prog w K mg base (CX w) k fa fd [x] sp)
    (hCX : ∀ (w : World) (H : Hp) (s : Shared) (e : Value) (s' : Shared), CX w [] H s (fun _ _ _ => False) e s' → False) :
    PySem.W.WalkO q loose XP YP l.row.toRowW d [] (fun f vs => PySem.call f vs) := by
  refine Att.attach_call hn hdf fun w s₀ s₁ mg mb fa o pm cd doc a vs ns G Y ho hd hcd hmg hobj hints hlen hg => ?_
  obtain ⟨K, fd, sp, KX, hb, hsp, hF⟩ := F w mg fa _ Y G.T.g hmg
  exact law_call KX G.T.g G.T.b G.T.builtins G.T.nolimit hg hobj hints (Nat.le_trans hlen hn2) hr hF hb (fun H hO hS => hsp H a ns hlen hO hS) fun H e s' => hCX w H s₁ e s'
theorem facts {P : Program} {w : World} {K : PySem.W.Frag} {h : Heap} {mg : Str → Option Value} {f : Addr} (X : K.In h) (G : h.Ns mainGlobals mg) (hfa : mg ("law" : Str) = some (.ref f)) (c : SaysR K) :
    ∃ fd : FuncData, (∀ (s : Shared) (v : Value), BindsTo s fd ⟨[v], []⟩ [("_law_script", v)]) ∧ ∀ base : Heap, K.In base → base.Ns mainGlobals mg → FnOk P w K mg base (L2N.CX P w) 30 f fd ["_law_script"] (spLw K) := by
  have T : Tx K mg := ⟨c, ⟨h, X, G⟩⟩
  have e := hfa.symm.trans T.g_law
  cases e
  have b := FunD.bindsA (ps := ["_law_script"]) T.D_law fun _ _ _ _ _ _ us hl => match us, hl with | [_], _ => rfl
  exact ⟨T.fd_law, fun s v => b s [v] rfl, fun base _ _ => ok_law T⟩
end Rk
open PySem PySem.W PySem.Calls PyProof.Rows
theorem PySem.Challenge.cw_retroact_k17_whole_states_of_a_history_holds : PySem.Challenge.rw_retroact_k17_whole_states_of_a_history.Holds := by
  w_on; o_law
  refine HandSHeadRun.head_any (r := OpenLaw.row PySem.Challenge.rw_retroact_k17_whole_states_of_a_history) (q := view (OpenLaw.row PySem.Challenge.rw_retroact_k17_whole_states_of_a_history).prog [73]) (H := Rk.hookR) (ob := Rk.obT) (M := 5300) (loose := Rk.loose) (d := HandSHeadRun.topDef (OpenLaw.row PySem.Challenge.rw_retroact_k17_whole_states_of_a_history).prog 73) (kwd := []) Rk.obT_eq
    (by kernel_rfl) (fun s => by kernel_rfl) Rk.runR (by kernel_rfl) (by kernel_rfl) (by kernel_rfl) (by rfl) (by first | assumption | decide +kernel) (by decide +kernel) ⟨rfl, rfl, rfl, rfl, rfl, by decide +kernel⟩ ?hw ?hc
  case hw => w_witness2
  case hc =>
    refine Rk.walk_ofEW (l := PySem.Challenge.rw_retroact_k17_whole_states_of_a_history) (n := 63) (k := 30) (x := "_law_script") (CX := fun w => L2N.CX PySem.Challenge.rw_retroact_k17_whole_states_of_a_history.prog w) rfl (by decide) (by kernel_rfl) ⟨rfl, by decide, by decide⟩ ?F ?X
    case X =>
      intro w H s e s' z
      obtain ⟨_, _, _, _, _, _, _, _, _, _, _, _, y⟩ := z
      exact y
    intro w mg fa h Y G hmg0
    obtain ⟨K, KX, c⟩ := Y
    have hmg : mg ("law" : PySem.Str) = some (.ref fa) := by
      have e : (HandSHeadRun.topDef (OpenLaw.row PySem.Challenge.rw_retroact_k17_whole_states_of_a_history).prog 73).name = ("law" : PySem.Str) := by kernel_rfl
      rw [← e]
      exact hmg0
    obtain ⟨fd, hb, hF⟩ := Rk.facts (P := PySem.Challenge.rw_retroact_k17_whole_states_of_a_history.prog) (w := w) KX G hmg c
    exact ⟨K, fd, Rk.spLw K, KX, hb, fun H a ns hl _ hS => ⟨a, ns, rfl, hS, fun _ => rfl⟩, hF⟩
