import PyProof.Rows.All
import Wide.All
import OpenK.AllK
import Wide.FinOn
import KE.KStateDown
import KE.OsHead
import Lean
import HandS.Base
import HandS.Call
import HandS.List
import HandS.Comp
import HandS.Ends
import HandS.Exc
import HandS.More
import HandS.Words
import HandS.WordsList
import HandS.WordsExc
import HandS.Defaults
import HandS.ExcInit
import HandS.ExcField
import HandS.Spec
import HandS.Head0
import HandS.Head1
import HandS.Head2
import HandS.Head3
import HandS.Head4
import HandS.HeadHook1
import HandS.HeadHook2
import HandS.HeadHook3
import PySem.Challenge.RW_clockedthreads_s01_answers
import Zq92R7285dSpec
import PyZq92
import HandS.ExcCtx
import HandS.HotCalls
import HandS.Walk
import HandS.Iter
import HandS.Zip
import HandS.Text
import HandS.Dict
import HandS.CallLocal
import KE.DatumOrd
import KE.GoesEnum
set_option Elab.async false
set_option linter.all false
set_option maxRecDepth 100000
set_option maxHeartbeats 4000000
namespace CT
open PySem PySem.Spec PyProof.Rows L2
abbrev R : PySem.W.OpenSpec := PySem.Challenge.rw_clockedthreads_s01_answers
def top (i : Nat) : Stmt := PySem.Challenge.pw_clockedthreads_s01_answers.main.body.getD i (.Pass ⟨0, 0, 0, 0⟩)
def nms0 : List PySem.Str := ["IDLE", "RUNNING", "WAITING", "ENDED", "LATE", "HALF_machines", "WHOLE", "MOST_EVENTS", "Thread", "Lock", "Machine", "thread_copy", "lock_copy", "machine_copy", "time_of", "least_of", "event_of", "can_go", "choices_of", "wrapped", "reckon", "take_lock", "free_lock", "wait", "wake", "start", "join", "meet", "do_event", "variable_in"]
def nms1 : List PySem.Str := ["race_of", "conflicts_of", "Outcome", "is_waiting", "one_run", "one_after", "is_behind", "place_for", "next_for", "rejoin", "NOTHING", "NULL", "FALSE", "TRUE", "INTEGER", "TEXT", "LIST", "RECORD", "WRONG_KIND", "OUT_OF_RANGE", "EIGHT", "HALF_octets", "Refusal", "Value", "octets_of", "nothing", "null", "integer", "truth", "text_of"]
def nms2 : List PySem.Str := ["list_of", "record_of", "demand", "number_at", "integer_at", "text_at", "list_at", "members_at", "value_at", "number_octets", "counted", "written", "request_of", "LEAST_WORD", "GREATEST_WORD", "MOST_LOCKS", "MOST_CONDITIONS", "MOST_SHARED", "MOST_THREADS", "MOST_CODE", "MOST_WEIGHT", "LAST_REGISTER", "SHAPES", "Program", "member", "is_between", "expect", "expect_number", "read_shared", "bounds_of"]
def nms3 : List PySem.Str := ["word_of", "instruction_of", "read_thread", "program_of", "MANY", "MODES", "Walk", "Shelf", "optional", "integers", "thread_value", "machine_members", "program_new", "race_value", "program_one", "program_after", "run_new", "run_fork", "run_in", "run_state", "run_choices", "run_conflicts", "run_step", "run_rejoin", "result", "walk_new", "walk_next", "walk_end", "DOORS", "answer"]
def nms : List PySem.Str := nms0 ++ nms1 ++ nms2 ++ nms3
def fas0 : List He.Fa := [.glo "thread_copy", .glo "lock_copy", .glo "machine_copy", .glo "time_of", .glo "least_of", .glo "event_of", .glo "can_go", .glo "choices_of", .glo "wrapped", .glo "reckon", .glo "take_lock", .glo "free_lock", .glo "wait", .glo "wake", .glo "start", .glo "join", .glo "meet", .glo "do_event", .glo "variable_in", .glo "race_of", .glo "conflicts_of", .glo "is_waiting", .glo "one_run", .glo "one_after", .glo "is_behind", .glo "place_for", .glo "next_for", .glo "rejoin", .glo "octets_of", .glo "nothing"]
def fas1 : List He.Fa := [.glo "null", .glo "integer", .glo "truth", .glo "text_of", .glo "list_of", .glo "record_of", .glo "demand", .glo "number_at", .glo "integer_at", .glo "text_at", .glo "list_at", .glo "members_at", .glo "value_at", .glo "number_octets", .glo "counted", .glo "written", .glo "request_of", .glo "member", .glo "is_between", .glo "expect", .glo "expect_number", .glo "read_shared", .glo "bounds_of", .glo "word_of", .glo "instruction_of", .glo "read_thread", .glo "program_of", .glo "optional", .glo "integers", .glo "thread_value"]
def fas2 : List He.Fa := [.glo "machine_members", .glo "program_new", .glo "race_value", .glo "program_one", .glo "program_after", .glo "run_new", .glo "run_fork", .glo "run_in", .glo "run_state", .glo "run_choices", .glo "run_conflicts", .glo "run_step", .glo "run_rejoin", .glo "result", .glo "walk_new", .glo "walk_next", .glo "walk_end", .glo "answer", .glo "answers", .glo "Thread", .glo "Lock", .glo "Machine", .glo "Outcome", .glo "Refusal", .glo "Value", .glo "Program", .glo "Walk", .glo "Shelf", .glo "LATE", .glo "MANY"]
def fas3 : List He.Fa := [.glo "MODES", .glo "SHAPES", .glo "DOORS", .free "range", .free "len", .free "list", .free "tuple", .free "zip", .free "enumerate", .free "min", .free "any", .free "ord", .free "str", .int "IDLE" (0), .int "RUNNING" (1), .int "WAITING" (2), .int "ENDED" (3), .int "HALF_machines" (2147483648), .int "WHOLE" (4294967296), .int "MOST_EVENTS" (5000), .int "NOTHING" (0), .int "NULL" (1), .int "FALSE" (2), .int "TRUE" (3), .int "INTEGER" (4), .int "TEXT" (6), .int "LIST" (7), .int "RECORD" (8), .int "WRONG_KIND" (1), .int "OUT_OF_RANGE" (2)]
def fas4 : List He.Fa := [.int "EIGHT" (18446744073709551616), .int "HALF_octets" (9223372036854775808), .int "LEAST_WORD" (-2147483648), .int "GREATEST_WORD" (2147483647), .int "MOST_LOCKS" (4), .int "MOST_CONDITIONS" (4), .int "MOST_SHARED" (6), .int "MOST_THREADS" (4), .int "MOST_CODE" (30), .int "MOST_WEIGHT" (9), .int "LAST_REGISTER" (3), .cls "Thread", .mkr "Thread", .noat "Thread" "code", .noat "Thread" "weight", .noat "Thread" "mode", .noat "Thread" "place", .noat "Thread" "registers", .noat "Thread" "printed", .noat "Thread" "wanted", .noat "Thread" "clock", .noat "Thread" "events", .cls "Lock", .mkr "Lock", .noat "Lock" "holder", .noat "Lock" "order", .noat "Lock" "freed", .cls "Machine", .mkr "Machine", .noat "Machine" "program"]
def fas5 : List He.Fa := [.noat "Machine" "threads", .noat "Machine" "contents", .noat "Machine" "locks", .noat "Machine" "queues", .noat "Machine" "events", .cls "Outcome", .mkr "Outcome", .noat "Outcome" "ending", .noat "Outcome" "length", .noat "Outcome" "race", .noat "Refusal" "kind", .noat "Refusal" "message", .cls "Value", .mkr "Value", .noat "Value" "kind", .noat "Value" "held", .cls "Program", .mkr "Program", .noat "Program" "locks", .noat "Program" "conditions", .noat "Program" "contents", .noat "Program" "guards", .noat "Program" "weights", .noat "Program" "started", .noat "Program" "codes", .cls "Walk", .mkr "Walk", .noat "Walk" "machine", .noat "Walk" "is_over", .cls "Shelf"]
def fas6 : List He.Fa := [.mkr "Shelf", .noat "Shelf" "programs", .noat "Shelf" "runs", .noat "Shelf" "walks"]
def fas : List He.Fa := fas0 ++ fas1 ++ fas2 ++ fas3 ++ fas4 ++ fas5 ++ fas6
def d_thread_copy : He.DefD := ⟨("thread_copy", none), "thread_copy", "thread_copy", defArgs (top 12), defBody (top 12), defScope (top 12), [], []⟩
def d_lock_copy : He.DefD := ⟨("lock_copy", none), "lock_copy", "lock_copy", defArgs (top 13), defBody (top 13), defScope (top 13), [], []⟩
def d_machine_copy : He.DefD := ⟨("machine_copy", none), "machine_copy", "machine_copy", defArgs (top 14), defBody (top 14), defScope (top 14), [], []⟩
def d_time_of : He.DefD := ⟨("time_of", none), "time_of", "time_of", defArgs (top 15), defBody (top 15), defScope (top 15), [], []⟩
def d_least_of : He.DefD := ⟨("least_of", none), "least_of", "least_of", defArgs (top 16), defBody (top 16), defScope (top 16), [], []⟩
def d_event_of : He.DefD := ⟨("event_of", none), "event_of", "event_of", defArgs (top 17), defBody (top 17), defScope (top 17), [], []⟩
def d_can_go : He.DefD := ⟨("can_go", none), "can_go", "can_go", defArgs (top 18), defBody (top 18), defScope (top 18), [], []⟩
def d_choices_of : He.DefD := ⟨("choices_of", none), "choices_of", "choices_of", defArgs (top 19), defBody (top 19), defScope (top 19), [], []⟩
def d_wrapped : He.DefD := ⟨("wrapped", none), "wrapped", "wrapped", defArgs (top 20), defBody (top 20), defScope (top 20), [], []⟩
def d_reckon : He.DefD := ⟨("reckon", none), "reckon", "reckon", defArgs (top 21), defBody (top 21), defScope (top 21), [], []⟩
def d_take_lock : He.DefD := ⟨("take_lock", none), "take_lock", "take_lock", defArgs (top 22), defBody (top 22), defScope (top 22), [], []⟩
def d_free_lock : He.DefD := ⟨("free_lock", none), "free_lock", "free_lock", defArgs (top 23), defBody (top 23), defScope (top 23), [], []⟩
def d_wait : He.DefD := ⟨("wait", none), "wait", "wait", defArgs (top 24), defBody (top 24), defScope (top 24), [], []⟩
def d_wake : He.DefD := ⟨("wake", none), "wake", "wake", defArgs (top 25), defBody (top 25), defScope (top 25), [], []⟩
def d_start : He.DefD := ⟨("start", none), "start", "start", defArgs (top 26), defBody (top 26), defScope (top 26), [], []⟩
def d_join : He.DefD := ⟨("join", none), "join", "join", defArgs (top 27), defBody (top 27), defScope (top 27), [], []⟩
def d_meet : He.DefD := ⟨("meet", none), "meet", "meet", defArgs (top 28), defBody (top 28), defScope (top 28), [], []⟩
def d_do_event : He.DefD := ⟨("do_event", none), "do_event", "do_event", defArgs (top 29), defBody (top 29), defScope (top 29), [], []⟩
def d_variable_in : He.DefD := ⟨("variable_in", none), "variable_in", "variable_in", defArgs (top 30), defBody (top 30), defScope (top 30), [], []⟩
def d_race_of : He.DefD := ⟨("race_of", none), "race_of", "race_of", defArgs (top 31), defBody (top 31), defScope (top 31), [], []⟩
def d_conflicts_of : He.DefD := ⟨("conflicts_of", none), "conflicts_of", "conflicts_of", defArgs (top 32), defBody (top 32), defScope (top 32), [], []⟩
def d_is_waiting : He.DefD := ⟨("is_waiting", none), "is_waiting", "is_waiting", defArgs (top 34), defBody (top 34), defScope (top 34), [], []⟩
def d_one_run : He.DefD := ⟨("one_run", none), "one_run", "one_run", defArgs (top 35), defBody (top 35), defScope (top 35), [], []⟩
def d_one_after : He.DefD := ⟨("one_after", none), "one_after", "one_after", defArgs (top 36), defBody (top 36), defScope (top 36), [], []⟩
def d_is_behind : He.DefD := ⟨("is_behind", none), "is_behind", "is_behind", defArgs (top 37), defBody (top 37), defScope (top 37), [], []⟩
def d_place_for : He.DefD := ⟨("place_for", none), "place_for", "place_for", defArgs (top 38), defBody (top 38), defScope (top 38), [], []⟩
def d_next_for : He.DefD := ⟨("next_for", none), "next_for", "next_for", defArgs (top 39), defBody (top 39), defScope (top 39), [], []⟩
def d_rejoin : He.DefD := ⟨("rejoin", none), "rejoin", "rejoin", defArgs (top 40), defBody (top 40), defScope (top 40), [], []⟩
def d_octets_of : He.DefD := ⟨("octets_of", none), "octets_of", "octets_of", defArgs (top 56), defBody (top 56), defScope (top 56), [], []⟩
def d_nothing : He.DefD := ⟨("nothing", none), "nothing", "nothing", defArgs (top 57), defBody (top 57), defScope (top 57), [], []⟩
def d_null : He.DefD := ⟨("null", none), "null", "null", defArgs (top 58), defBody (top 58), defScope (top 58), [], []⟩
def d_integer : He.DefD := ⟨("integer", none), "integer", "integer", defArgs (top 59), defBody (top 59), defScope (top 59), [], []⟩
def d_truth : He.DefD := ⟨("truth", none), "truth", "truth", defArgs (top 60), defBody (top 60), defScope (top 60), [], []⟩
def d_text_of : He.DefD := ⟨("text_of", none), "text_of", "text_of", defArgs (top 61), defBody (top 61), defScope (top 61), [], []⟩
def d_list_of : He.DefD := ⟨("list_of", none), "list_of", "list_of", defArgs (top 62), defBody (top 62), defScope (top 62), [], []⟩
def d_record_of : He.DefD := ⟨("record_of", none), "record_of", "record_of", defArgs (top 63), defBody (top 63), defScope (top 63), [], []⟩
def d_demand : He.DefD := ⟨("demand", none), "demand", "demand", defArgs (top 64), defBody (top 64), defScope (top 64), [], []⟩
def d_number_at : He.DefD := ⟨("number_at", none), "number_at", "number_at", defArgs (top 65), defBody (top 65), defScope (top 65), [], []⟩
def d_integer_at : He.DefD := ⟨("integer_at", none), "integer_at", "integer_at", defArgs (top 66), defBody (top 66), defScope (top 66), [], []⟩
def d_text_at : He.DefD := ⟨("text_at", none), "text_at", "text_at", defArgs (top 67), defBody (top 67), defScope (top 67), [], []⟩
def d_list_at : He.DefD := ⟨("list_at", none), "list_at", "list_at", defArgs (top 68), defBody (top 68), defScope (top 68), [], []⟩
def d_members_at : He.DefD := ⟨("members_at", none), "members_at", "members_at", defArgs (top 69), defBody (top 69), defScope (top 69), [], []⟩
def d_value_at : He.DefD := ⟨("value_at", none), "value_at", "value_at", defArgs (top 70), defBody (top 70), defScope (top 70), [], []⟩
def d_number_octets : He.DefD := ⟨("number_octets", none), "number_octets", "number_octets", defArgs (top 71), defBody (top 71), defScope (top 71), [], []⟩
def d_counted : He.DefD := ⟨("counted", none), "counted", "counted", defArgs (top 72), defBody (top 72), defScope (top 72), [], []⟩
def d_written : He.DefD := ⟨("written", none), "written", "written", defArgs (top 73), defBody (top 73), defScope (top 73), [], []⟩
def d_request_of : He.DefD := ⟨("request_of", none), "request_of", "request_of", defArgs (top 74), defBody (top 74), defScope (top 74), [], []⟩
def d_member : He.DefD := ⟨("member", none), "member", "member", defArgs (top 87), defBody (top 87), defScope (top 87), [], []⟩
def d_is_between : He.DefD := ⟨("is_between", none), "is_between", "is_between", defArgs (top 88), defBody (top 88), defScope (top 88), [], []⟩
def d_expect : He.DefD := ⟨("expect", none), "expect", "expect", defArgs (top 89), defBody (top 89), defScope (top 89), [], []⟩
def d_expect_number : He.DefD := ⟨("expect_number", none), "expect_number", "expect_number", defArgs (top 90), defBody (top 90), defScope (top 90), [], []⟩
def d_read_shared : He.DefD := ⟨("read_shared", none), "read_shared", "read_shared", defArgs (top 91), defBody (top 91), defScope (top 91), [], []⟩
def d_bounds_of : He.DefD := ⟨("bounds_of", none), "bounds_of", "bounds_of", defArgs (top 92), defBody (top 92), defScope (top 92), [], []⟩
def d_word_of : He.DefD := ⟨("word_of", none), "word_of", "word_of", defArgs (top 93), defBody (top 93), defScope (top 93), [], []⟩
def d_instruction_of : He.DefD := ⟨("instruction_of", none), "instruction_of", "instruction_of", defArgs (top 94), defBody (top 94), defScope (top 94), [], []⟩
def d_read_thread : He.DefD := ⟨("read_thread", none), "read_thread", "read_thread", defArgs (top 95), defBody (top 95), defScope (top 95), [], []⟩
def d_program_of : He.DefD := ⟨("program_of", none), "program_of", "program_of", defArgs (top 96), defBody (top 96), defScope (top 96), [], []⟩
def d_optional : He.DefD := ⟨("optional", none), "optional", "optional", defArgs (top 102), defBody (top 102), defScope (top 102), [], []⟩
def d_integers : He.DefD := ⟨("integers", none), "integers", "integers", defArgs (top 103), defBody (top 103), defScope (top 103), [], []⟩
def d_thread_value : He.DefD := ⟨("thread_value", none), "thread_value", "thread_value", defArgs (top 104), defBody (top 104), defScope (top 104), [], []⟩
def d_machine_members : He.DefD := ⟨("machine_members", none), "machine_members", "machine_members", defArgs (top 105), defBody (top 105), defScope (top 105), [], []⟩
def d_program_new : He.DefD := ⟨("program_new", none), "program_new", "program_new", defArgs (top 106), defBody (top 106), defScope (top 106), [], []⟩
def d_race_value : He.DefD := ⟨("race_value", none), "race_value", "race_value", defArgs (top 107), defBody (top 107), defScope (top 107), [], []⟩
def d_program_one : He.DefD := ⟨("program_one", none), "program_one", "program_one", defArgs (top 108), defBody (top 108), defScope (top 108), [], []⟩
def d_program_after : He.DefD := ⟨("program_after", none), "program_after", "program_after", defArgs (top 109), defBody (top 109), defScope (top 109), [], []⟩
def d_run_new : He.DefD := ⟨("run_new", none), "run_new", "run_new", defArgs (top 110), defBody (top 110), defScope (top 110), [], []⟩
def d_run_fork : He.DefD := ⟨("run_fork", none), "run_fork", "run_fork", defArgs (top 111), defBody (top 111), defScope (top 111), [], []⟩
def d_run_in : He.DefD := ⟨("run_in", none), "run_in", "run_in", defArgs (top 112), defBody (top 112), defScope (top 112), [], []⟩
def d_run_state : He.DefD := ⟨("run_state", none), "run_state", "run_state", defArgs (top 113), defBody (top 113), defScope (top 113), [], []⟩
def d_run_choices : He.DefD := ⟨("run_choices", none), "run_choices", "run_choices", defArgs (top 114), defBody (top 114), defScope (top 114), [], []⟩
def d_run_conflicts : He.DefD := ⟨("run_conflicts", none), "run_conflicts", "run_conflicts", defArgs (top 115), defBody (top 115), defScope (top 115), [], []⟩
def d_run_step : He.DefD := ⟨("run_step", none), "run_step", "run_step", defArgs (top 116), defBody (top 116), defScope (top 116), [], []⟩
def d_run_rejoin : He.DefD := ⟨("run_rejoin", none), "run_rejoin", "run_rejoin", defArgs (top 117), defBody (top 117), defScope (top 117), [], []⟩
def d_result : He.DefD := ⟨("result", none), "result", "result", defArgs (top 118), defBody (top 118), defScope (top 118), [], []⟩
def d_walk_new : He.DefD := ⟨("walk_new", none), "walk_new", "walk_new", defArgs (top 119), defBody (top 119), defScope (top 119), [], []⟩
def d_walk_next : He.DefD := ⟨("walk_next", none), "walk_next", "walk_next", defArgs (top 120), defBody (top 120), defScope (top 120), [], []⟩
def d_walk_end : He.DefD := ⟨("walk_end", none), "walk_end", "walk_end", defArgs (top 121), defBody (top 121), defScope (top 121), [], []⟩
def d_answer : He.DefD := ⟨("answer", none), "answer", "answer", defArgs (top 123), defBody (top 123), defScope (top 123), [], []⟩
def d_answers : He.DefD := ⟨("answers", none), "answers", "answers", defArgs (top 124), defBody (top 124), defScope (top 124), [], []⟩
def d_init_Thread : He.DefD := ⟨("Thread", some "__init__"), "__init__", "Thread.__init__", defArgs (inClass (top 9) 0), defBody (inClass (top 9) 0), defScope (inClass (top 9) 0), [], []⟩
def d_init_Lock : He.DefD := ⟨("Lock", some "__init__"), "__init__", "Lock.__init__", defArgs (inClass (top 10) 0), defBody (inClass (top 10) 0), defScope (inClass (top 10) 0), [], []⟩
def d_init_Machine : He.DefD := ⟨("Machine", some "__init__"), "__init__", "Machine.__init__", defArgs (inClass (top 11) 0), defBody (inClass (top 11) 0), defScope (inClass (top 11) 0), [], []⟩
def d_init_Outcome : He.DefD := ⟨("Outcome", some "__init__"), "__init__", "Outcome.__init__", defArgs (inClass (top 33) 0), defBody (inClass (top 33) 0), defScope (inClass (top 33) 0), [], []⟩
def d_init_Refusal : He.DefD := ⟨("Refusal", some "__init__"), "__init__", "Refusal.__init__", defArgs (inClass (top 54) 0), defBody (inClass (top 54) 0), defScope (inClass (top 54) 0), [], []⟩
def d_init_Value : He.DefD := ⟨("Value", some "__init__"), "__init__", "Value.__init__", defArgs (inClass (top 55) 0), defBody (inClass (top 55) 0), defScope (inClass (top 55) 0), [], []⟩
def d_init_Program : He.DefD := ⟨("Program", some "__init__"), "__init__", "Program.__init__", defArgs (inClass (top 86) 0), defBody (inClass (top 86) 0), defScope (inClass (top 86) 0), [], []⟩
def d_init_Walk : He.DefD := ⟨("Walk", some "__init__"), "__init__", "Walk.__init__", defArgs (inClass (top 100) 0), defBody (inClass (top 100) 0), defScope (inClass (top 100) 0), [], []⟩
def d_init_Shelf : He.DefD := ⟨("Shelf", some "__init__"), "__init__", "Shelf.__init__", defArgs (inClass (top 101) 0), defBody (inClass (top 101) 0), defScope (inClass (top 101) 0), [], []⟩
def fns0 : List He.DefD := [d_thread_copy, d_lock_copy, d_machine_copy, d_time_of, d_least_of, d_event_of, d_can_go, d_choices_of, d_wrapped, d_reckon, d_take_lock, d_free_lock, d_wait, d_wake, d_start, d_join, d_meet, d_do_event, d_variable_in, d_race_of, d_conflicts_of, d_is_waiting, d_one_run, d_one_after, d_is_behind, d_place_for, d_next_for, d_rejoin, d_octets_of, d_nothing]
def fns1 : List He.DefD := [d_null, d_integer, d_truth, d_text_of, d_list_of, d_record_of, d_demand, d_number_at, d_integer_at, d_text_at, d_list_at, d_members_at, d_value_at, d_number_octets, d_counted, d_written, d_request_of, d_member, d_is_between, d_expect, d_expect_number, d_read_shared, d_bounds_of, d_word_of, d_instruction_of, d_read_thread, d_program_of, d_optional, d_integers, d_thread_value]
def fns2 : List He.DefD := [d_machine_members, d_program_new, d_race_value, d_program_one, d_program_after, d_run_new, d_run_fork, d_run_in, d_run_state, d_run_choices, d_run_conflicts, d_run_step, d_run_rejoin, d_result, d_walk_new, d_walk_next, d_walk_end, d_answer, d_answers, d_init_Thread, d_init_Lock, d_init_Machine, d_init_Outcome, d_init_Refusal, d_init_Value, d_init_Program, d_init_Walk, d_init_Shelf]
def fns : List He.DefD := fns0 ++ fns1 ++ fns2
def shpKeys : List PySem.Str := ["const", "add", "sub", "less", "jump", "load", "store", "print", "lock", "unlock", "wait", "wake", "start", "join"]
def shpVals : List (PySem.Str × List V) := [("const", [.str "r", .str "z"]), ("add", [.str "r", .str "r", .str "r"]), ("sub", [.str "r", .str "r", .str "r"]), ("less", [.str "r", .str "r", .str "r"]), ("jump", [.str "r", .str "k"]), ("load", [.str "r", .str "v"]), ("store", [.str "v", .str "r"]), ("print", [.str "r"]), ("lock", [.str "l"]), ("unlock", [.str "l"]), ("wait", [.str "c", .str "l"]), ("wake", [.str "c"]), ("start", [.str "t"]), ("join", [.str "t"])]
def doorNames : List (Int × PySem.Str) := [(0, "program_new"), (1, "program_one"), (2, "program_after"), (3, "run_new"), (4, "run_fork"), (5, "run_state"), (6, "run_choices"), (7, "run_conflicts"), (8, "run_step"), (9, "run_rejoin"), (10, "walk_new"), (11, "walk_next"), (12, "walk_end")]
def lateVals : List He.Dv := [.str "lock", .str "wait", .str "wake", .str "start", .str "join"]
def manyVals : List He.Dv := [.int 2, .int 2, .int 2, .int 2, .int 2, .int 1, .int 1, .int 1, .int 2, .int 1, .int 2, .int 1, .int 2]
def modeVals : List He.Dv := [.str "idle", .str "running", .str "waiting", .str "ended"]
/-! ### what is read of the heap behind the top -/
def refsM (o : Obj) : List Addr := match o.data with
  | .func fd => He.refV fd.code
  | .cls cd => [cd.ns]
  | .dict es _ => es.toList.flatMap fun e => He.refV e.val
  | _ => []
def hopM (g : Addr → Option Obj) (as : List Addr) : List Addr := as.flatMap fun a => match g a with
  | some o => refsM o
  | none => []
/-- the written part: what the module's names reach in a few steps -/
def frM (g : Addr → Option Obj) : PySem.W.Frag :=
  let l1 := hopM g [mainGlobals]
  let l2 := hopM g l1
  let l3 := hopM g l2
  let l4 := hopM g l3
  He.frG g (mainGlobals :: (l1 ++ (l2 ++ (l3 ++ l4))))
def shpAt (x : PySem.Str) (K : PySem.W.Frag) : Addr := match PySem.W.nsIn K (He.ga K "SHAPES") x with
  | some (some (.ref a)) => a
  | _ => 0
def tupAtB (K : PySem.W.Frag) (a : Addr) (vs : List V) : Bool := match K.lookup a with
  | some ⟨.type c, _, .seq its _, _⟩ => decide (c = "tuple") && (decide (its.size ≤ sizeLine) && He.relAll vs its.toList)
  | _ => false
theorem tupAtB_ok {K : PySem.W.Frag} {a : Addr} {vs : List V} (h : tupAtB K a vs = true) (H : Hp) : SqT K H a vs := by
  unfold tupAtB at h
  split at h
  · rename_i c dd its n sl hl
    simp only [Bool.and_eq_true, decide_eq_true_eq] at h
    obtain ⟨rfl, hz, hv⟩ := h
    exact .inr ⟨_, its, n, hl, rfl, rfl, hz, He.relAll_ok hv⟩
  · cases h
def shpOneB (K : PySem.W.Frag) (q : PySem.Str × List V) : Bool := He.eqO (PySem.W.nsIn K (He.ga K "SHAPES") q.1) (some (some (.ref (shpAt q.1 K)))) && tupAtB K (shpAt q.1 K) q.2
/-- a dict of the module whose keys are whole numbers, its values defs of the module -/
def intsB (K : PySem.W.Frag) : List DictEntry → List (Int × PySem.Str) → Bool
  | [], [] => true
  | e :: es, q :: qs => (match e.key with
    | .int k _ => decide (k = q.1)
    | _ => false) && (decide (e.hash = hashInt q.1) && (decide (e.val = .ref (He.ga K q.2)) && intsB K es qs))
  | _, _ => false
def doorsB (K : PySem.W.Frag) : Bool := match K.lookup (He.ga K "DOORS") with
  | some ⟨.type c, none, .dict es _, sl⟩ => decide (c = "dict") && (sl.isEmpty && (!(He.ga K "DOORS" == sysModules) && intsB K es.toList doorNames))
  | _ => false
/-- the module's own error: its class, its __init__ -/
def excB (K : PySem.W.Frag) (C : Addr) : Bool := match K.lookup C with
  | some ⟨.type T, _, .cls cd, sl⟩ => decide (T = "type") && (match cd.mro, sl.toList with
    | .ref C' :: bm, [_, _, _, _, some (.builtin n), _] => decide (C' = C) && (decide (n = "ValueError.__new__") && (!cd.hasDel && (cd.hasDict && PySem.HandSPX.refsVE bm)))
    | _, _ => false)
  | _ => false
def refB (K : PySem.W.Frag) : Bool :=
  excB K (He.ga K "Refusal") && (He.eqO (PySem.W.findIn K (.ref (He.ga K "Refusal")) "__setattr__") (some (some (.builtin "object.__setattr__"))) &&
  (decide (PySem.W.subIn K (.ref (He.ga K "Refusal")) (.type "BaseException") = some true) && (decide (PySem.W.typeIn K (.ref (He.ga K "Refusal")) = some (.type "type")) && (PySem.W.keepIn K (.ref (He.ga K "Refusal")) &&
  (He.eqO (PySem.W.findIn K (.ref (He.ga K "Refusal")) "__init__") (some (some (.ref (He.ma K (He.ga K "Refusal") "__init__")))) && (decide (PySem.W.typeIn K (.ref (He.ma K (He.ga K "Refusal") "__init__")) = some (.type "function")) &&
  (decide (PySem.W.exmOne K (.ref (He.ga K "Refusal")) (.ref (He.ga K "Refusal")) = some true) && xfB K (He.ga K "Refusal"))))))))
def exB (K : PySem.W.Frag) : Bool := He.tupB K "LATE" lateVals && (He.tupB K "MANY" manyVals && (He.tupB K "MODES" modeVals && (shpVals.all (shpOneB K) && (doorsB K && refB K))))
def tabs : List He.Tab := [(fun K => He.ga K "SHAPES", shpKeys)]
abbrev AlC : Type := He.AlT × Bool
def obsK (K : PySem.W.Frag) : AlC := (He.obsT fas fns tabs K, exB K)
def obsC (g : Addr → Option Obj) : AlC := obsK (frM g)
def valC (w : World) : AlC := (He.valT fns tabs w, true)
structure SaysC (w : World) (K : PySem.W.Frag) : Prop where
  t : He.SaysT fas fns tabs w K
  ex : exB K = true
theorem saysC_of {w : World} {K : PySem.W.Frag} (e : obsK K = valC w) : SaysC w K := ⟨congrArg Prod.fst e, congrArg Prod.snd e⟩
def hkC : PySem.W.Hook where
  α := AlC
  obs := fun s => obsC s.heap.get?
  val := fun w => valC w
  says := fun w h => ∃ K : PySem.W.Frag, K.In h ∧ SaysC w K
  of := fun _ s e => ⟨frM s.heap.get?, He.frG_in, saysC_of e⟩
  keeps := fun _ _ _ ⟨K, hK, c⟩ k => ⟨K, PySem.W.Frag.In.keeps hK k, c⟩
def obT (s : PySem.W.SharedT) : AlC := obsC (HandSHeadRun.getT s)
theorem obT_eq (s : PySem.W.SharedT) : obT s = hkC.obs s.abs := congrArg obsC (funext (HandSHeadRun.getT_eq s))
/-! ### the facts by name -/
/-- what every walk leans on: the written part K, the module's names -/
structure Tx (w : World) (K : PySem.W.Frag) (mg : PySem.Str → Option Value) : Prop where
  s : SaysC w K
  h : ∃ h : Heap, K.In h ∧ h.Ns mainGlobals mg
section
variable {w : World} {K : PySem.W.Frag} {mg : PySem.Str → Option Value}
theorem Tx.fact (T : Tx w K mg) (i : Nat) {f : He.Fa} (h : fas[i]? = some f) : f.ok K = true := T.s.t.d.fact i h
theorem Tx.def_ (T : Tx w K mg) (i : Nat) {d : He.DefD} (h : fns[i]? = some d) : ∃ fd, FunD K d.name d.qual d.params d.body d.scope (d.dvs K) (d.kws K) (He.fAd K d.at_) fd := T.s.t.d.def_ i h
theorem Tx.glo (T : Tx w K mg) {x : PySem.Str} (c : (He.Fa.glo x).ok K = true) : mg x = some (.ref (He.ga K x)) := by
  obtain ⟨h, a, b⟩ := T.h
  exact He.glo_ok a b c
theorem Tx.free (T : Tx w K mg) {x : PySem.Str} (c : (He.Fa.free x).ok K = true) : mg x = none := by
  obtain ⟨h, a, b⟩ := T.h
  exact He.free_ok a b c
theorem Tx.int (T : Tx w K mg) {x : PySem.Str} {i : Int} (c : (He.Fa.int x i).ok K = true) : ∃ t, mg x = some (.int i t) := by
  obtain ⟨h, a, b⟩ := T.h
  exact He.int_ok a b c

theorem Tx.g_thread_copy (T : Tx w K mg) : mg "thread_copy" = some (.ref (He.ga K "thread_copy")) := T.glo (T.fact 0 (f := .glo "thread_copy") rfl)
theorem Tx.g_lock_copy (T : Tx w K mg) : mg "lock_copy" = some (.ref (He.ga K "lock_copy")) := T.glo (T.fact 1 (f := .glo "lock_copy") rfl)
theorem Tx.g_machine_copy (T : Tx w K mg) : mg "machine_copy" = some (.ref (He.ga K "machine_copy")) := T.glo (T.fact 2 (f := .glo "machine_copy") rfl)
theorem Tx.g_time_of (T : Tx w K mg) : mg "time_of" = some (.ref (He.ga K "time_of")) := T.glo (T.fact 3 (f := .glo "time_of") rfl)
theorem Tx.g_least_of (T : Tx w K mg) : mg "least_of" = some (.ref (He.ga K "least_of")) := T.glo (T.fact 4 (f := .glo "least_of") rfl)
theorem Tx.g_event_of (T : Tx w K mg) : mg "event_of" = some (.ref (He.ga K "event_of")) := T.glo (T.fact 5 (f := .glo "event_of") rfl)
theorem Tx.g_can_go (T : Tx w K mg) : mg "can_go" = some (.ref (He.ga K "can_go")) := T.glo (T.fact 6 (f := .glo "can_go") rfl)
theorem Tx.g_choices_of (T : Tx w K mg) : mg "choices_of" = some (.ref (He.ga K "choices_of")) := T.glo (T.fact 7 (f := .glo "choices_of") rfl)
theorem Tx.g_wrapped (T : Tx w K mg) : mg "wrapped" = some (.ref (He.ga K "wrapped")) := T.glo (T.fact 8 (f := .glo "wrapped") rfl)
theorem Tx.g_reckon (T : Tx w K mg) : mg "reckon" = some (.ref (He.ga K "reckon")) := T.glo (T.fact 9 (f := .glo "reckon") rfl)
theorem Tx.g_take_lock (T : Tx w K mg) : mg "take_lock" = some (.ref (He.ga K "take_lock")) := T.glo (T.fact 10 (f := .glo "take_lock") rfl)
theorem Tx.g_free_lock (T : Tx w K mg) : mg "free_lock" = some (.ref (He.ga K "free_lock")) := T.glo (T.fact 11 (f := .glo "free_lock") rfl)
theorem Tx.g_wait (T : Tx w K mg) : mg "wait" = some (.ref (He.ga K "wait")) := T.glo (T.fact 12 (f := .glo "wait") rfl)
theorem Tx.g_wake (T : Tx w K mg) : mg "wake" = some (.ref (He.ga K "wake")) := T.glo (T.fact 13 (f := .glo "wake") rfl)
theorem Tx.g_start (T : Tx w K mg) : mg "start" = some (.ref (He.ga K "start")) := T.glo (T.fact 14 (f := .glo "start") rfl)
theorem Tx.g_join (T : Tx w K mg) : mg "join" = some (.ref (He.ga K "join")) := T.glo (T.fact 15 (f := .glo "join") rfl)
theorem Tx.g_meet (T : Tx w K mg) : mg "meet" = some (.ref (He.ga K "meet")) := T.glo (T.fact 16 (f := .glo "meet") rfl)
theorem Tx.g_do_event (T : Tx w K mg) : mg "do_event" = some (.ref (He.ga K "do_event")) := T.glo (T.fact 17 (f := .glo "do_event") rfl)
theorem Tx.g_variable_in (T : Tx w K mg) : mg "variable_in" = some (.ref (He.ga K "variable_in")) := T.glo (T.fact 18 (f := .glo "variable_in") rfl)
theorem Tx.g_race_of (T : Tx w K mg) : mg "race_of" = some (.ref (He.ga K "race_of")) := T.glo (T.fact 19 (f := .glo "race_of") rfl)
theorem Tx.g_conflicts_of (T : Tx w K mg) : mg "conflicts_of" = some (.ref (He.ga K "conflicts_of")) := T.glo (T.fact 20 (f := .glo "conflicts_of") rfl)
theorem Tx.g_is_waiting (T : Tx w K mg) : mg "is_waiting" = some (.ref (He.ga K "is_waiting")) := T.glo (T.fact 21 (f := .glo "is_waiting") rfl)
theorem Tx.g_one_run (T : Tx w K mg) : mg "one_run" = some (.ref (He.ga K "one_run")) := T.glo (T.fact 22 (f := .glo "one_run") rfl)
theorem Tx.g_one_after (T : Tx w K mg) : mg "one_after" = some (.ref (He.ga K "one_after")) := T.glo (T.fact 23 (f := .glo "one_after") rfl)
theorem Tx.g_is_behind (T : Tx w K mg) : mg "is_behind" = some (.ref (He.ga K "is_behind")) := T.glo (T.fact 24 (f := .glo "is_behind") rfl)
theorem Tx.g_place_for (T : Tx w K mg) : mg "place_for" = some (.ref (He.ga K "place_for")) := T.glo (T.fact 25 (f := .glo "place_for") rfl)
theorem Tx.g_next_for (T : Tx w K mg) : mg "next_for" = some (.ref (He.ga K "next_for")) := T.glo (T.fact 26 (f := .glo "next_for") rfl)
theorem Tx.g_rejoin (T : Tx w K mg) : mg "rejoin" = some (.ref (He.ga K "rejoin")) := T.glo (T.fact 27 (f := .glo "rejoin") rfl)
theorem Tx.g_octets_of (T : Tx w K mg) : mg "octets_of" = some (.ref (He.ga K "octets_of")) := T.glo (T.fact 28 (f := .glo "octets_of") rfl)
theorem Tx.g_nothing (T : Tx w K mg) : mg "nothing" = some (.ref (He.ga K "nothing")) := T.glo (T.fact 29 (f := .glo "nothing") rfl)
theorem Tx.g_null (T : Tx w K mg) : mg "null" = some (.ref (He.ga K "null")) := T.glo (T.fact 30 (f := .glo "null") rfl)
theorem Tx.g_integer (T : Tx w K mg) : mg "integer" = some (.ref (He.ga K "integer")) := T.glo (T.fact 31 (f := .glo "integer") rfl)
theorem Tx.g_truth (T : Tx w K mg) : mg "truth" = some (.ref (He.ga K "truth")) := T.glo (T.fact 32 (f := .glo "truth") rfl)
theorem Tx.g_text_of (T : Tx w K mg) : mg "text_of" = some (.ref (He.ga K "text_of")) := T.glo (T.fact 33 (f := .glo "text_of") rfl)
theorem Tx.g_list_of (T : Tx w K mg) : mg "list_of" = some (.ref (He.ga K "list_of")) := T.glo (T.fact 34 (f := .glo "list_of") rfl)
theorem Tx.g_record_of (T : Tx w K mg) : mg "record_of" = some (.ref (He.ga K "record_of")) := T.glo (T.fact 35 (f := .glo "record_of") rfl)
theorem Tx.g_demand (T : Tx w K mg) : mg "demand" = some (.ref (He.ga K "demand")) := T.glo (T.fact 36 (f := .glo "demand") rfl)
theorem Tx.g_number_at (T : Tx w K mg) : mg "number_at" = some (.ref (He.ga K "number_at")) := T.glo (T.fact 37 (f := .glo "number_at") rfl)
theorem Tx.g_integer_at (T : Tx w K mg) : mg "integer_at" = some (.ref (He.ga K "integer_at")) := T.glo (T.fact 38 (f := .glo "integer_at") rfl)
theorem Tx.g_text_at (T : Tx w K mg) : mg "text_at" = some (.ref (He.ga K "text_at")) := T.glo (T.fact 39 (f := .glo "text_at") rfl)
theorem Tx.g_list_at (T : Tx w K mg) : mg "list_at" = some (.ref (He.ga K "list_at")) := T.glo (T.fact 40 (f := .glo "list_at") rfl)
theorem Tx.g_members_at (T : Tx w K mg) : mg "members_at" = some (.ref (He.ga K "members_at")) := T.glo (T.fact 41 (f := .glo "members_at") rfl)
theorem Tx.g_value_at (T : Tx w K mg) : mg "value_at" = some (.ref (He.ga K "value_at")) := T.glo (T.fact 42 (f := .glo "value_at") rfl)
theorem Tx.g_number_octets (T : Tx w K mg) : mg "number_octets" = some (.ref (He.ga K "number_octets")) := T.glo (T.fact 43 (f := .glo "number_octets") rfl)
theorem Tx.g_counted (T : Tx w K mg) : mg "counted" = some (.ref (He.ga K "counted")) := T.glo (T.fact 44 (f := .glo "counted") rfl)
theorem Tx.g_written (T : Tx w K mg) : mg "written" = some (.ref (He.ga K "written")) := T.glo (T.fact 45 (f := .glo "written") rfl)
theorem Tx.g_request_of (T : Tx w K mg) : mg "request_of" = some (.ref (He.ga K "request_of")) := T.glo (T.fact 46 (f := .glo "request_of") rfl)
theorem Tx.g_member (T : Tx w K mg) : mg "member" = some (.ref (He.ga K "member")) := T.glo (T.fact 47 (f := .glo "member") rfl)
theorem Tx.g_is_between (T : Tx w K mg) : mg "is_between" = some (.ref (He.ga K "is_between")) := T.glo (T.fact 48 (f := .glo "is_between") rfl)
theorem Tx.g_expect (T : Tx w K mg) : mg "expect" = some (.ref (He.ga K "expect")) := T.glo (T.fact 49 (f := .glo "expect") rfl)
theorem Tx.g_expect_number (T : Tx w K mg) : mg "expect_number" = some (.ref (He.ga K "expect_number")) := T.glo (T.fact 50 (f := .glo "expect_number") rfl)
theorem Tx.g_read_shared (T : Tx w K mg) : mg "read_shared" = some (.ref (He.ga K "read_shared")) := T.glo (T.fact 51 (f := .glo "read_shared") rfl)
theorem Tx.g_bounds_of (T : Tx w K mg) : mg "bounds_of" = some (.ref (He.ga K "bounds_of")) := T.glo (T.fact 52 (f := .glo "bounds_of") rfl)
theorem Tx.g_word_of (T : Tx w K mg) : mg "word_of" = some (.ref (He.ga K "word_of")) := T.glo (T.fact 53 (f := .glo "word_of") rfl)
theorem Tx.g_instruction_of (T : Tx w K mg) : mg "instruction_of" = some (.ref (He.ga K "instruction_of")) := T.glo (T.fact 54 (f := .glo "instruction_of") rfl)
theorem Tx.g_read_thread (T : Tx w K mg) : mg "read_thread" = some (.ref (He.ga K "read_thread")) := T.glo (T.fact 55 (f := .glo "read_thread") rfl)
theorem Tx.g_program_of (T : Tx w K mg) : mg "program_of" = some (.ref (He.ga K "program_of")) := T.glo (T.fact 56 (f := .glo "program_of") rfl)
theorem Tx.g_optional (T : Tx w K mg) : mg "optional" = some (.ref (He.ga K "optional")) := T.glo (T.fact 57 (f := .glo "optional") rfl)
theorem Tx.g_integers (T : Tx w K mg) : mg "integers" = some (.ref (He.ga K "integers")) := T.glo (T.fact 58 (f := .glo "integers") rfl)
theorem Tx.g_thread_value (T : Tx w K mg) : mg "thread_value" = some (.ref (He.ga K "thread_value")) := T.glo (T.fact 59 (f := .glo "thread_value") rfl)
theorem Tx.g_machine_members (T : Tx w K mg) : mg "machine_members" = some (.ref (He.ga K "machine_members")) := T.glo (T.fact 60 (f := .glo "machine_members") rfl)
theorem Tx.g_program_new (T : Tx w K mg) : mg "program_new" = some (.ref (He.ga K "program_new")) := T.glo (T.fact 61 (f := .glo "program_new") rfl)
theorem Tx.g_race_value (T : Tx w K mg) : mg "race_value" = some (.ref (He.ga K "race_value")) := T.glo (T.fact 62 (f := .glo "race_value") rfl)
theorem Tx.g_program_one (T : Tx w K mg) : mg "program_one" = some (.ref (He.ga K "program_one")) := T.glo (T.fact 63 (f := .glo "program_one") rfl)
theorem Tx.g_program_after (T : Tx w K mg) : mg "program_after" = some (.ref (He.ga K "program_after")) := T.glo (T.fact 64 (f := .glo "program_after") rfl)
theorem Tx.g_run_new (T : Tx w K mg) : mg "run_new" = some (.ref (He.ga K "run_new")) := T.glo (T.fact 65 (f := .glo "run_new") rfl)
theorem Tx.g_run_fork (T : Tx w K mg) : mg "run_fork" = some (.ref (He.ga K "run_fork")) := T.glo (T.fact 66 (f := .glo "run_fork") rfl)
theorem Tx.g_run_in (T : Tx w K mg) : mg "run_in" = some (.ref (He.ga K "run_in")) := T.glo (T.fact 67 (f := .glo "run_in") rfl)
theorem Tx.g_run_state (T : Tx w K mg) : mg "run_state" = some (.ref (He.ga K "run_state")) := T.glo (T.fact 68 (f := .glo "run_state") rfl)
theorem Tx.g_run_choices (T : Tx w K mg) : mg "run_choices" = some (.ref (He.ga K "run_choices")) := T.glo (T.fact 69 (f := .glo "run_choices") rfl)
theorem Tx.g_run_conflicts (T : Tx w K mg) : mg "run_conflicts" = some (.ref (He.ga K "run_conflicts")) := T.glo (T.fact 70 (f := .glo "run_conflicts") rfl)
theorem Tx.g_run_step (T : Tx w K mg) : mg "run_step" = some (.ref (He.ga K "run_step")) := T.glo (T.fact 71 (f := .glo "run_step") rfl)
theorem Tx.g_run_rejoin (T : Tx w K mg) : mg "run_rejoin" = some (.ref (He.ga K "run_rejoin")) := T.glo (T.fact 72 (f := .glo "run_rejoin") rfl)
theorem Tx.g_result (T : Tx w K mg) : mg "result" = some (.ref (He.ga K "result")) := T.glo (T.fact 73 (f := .glo "result") rfl)
theorem Tx.g_walk_new (T : Tx w K mg) : mg "walk_new" = some (.ref (He.ga K "walk_new")) := T.glo (T.fact 74 (f := .glo "walk_new") rfl)
theorem Tx.g_walk_next (T : Tx w K mg) : mg "walk_next" = some (.ref (He.ga K "walk_next")) := T.glo (T.fact 75 (f := .glo "walk_next") rfl)
theorem Tx.g_walk_end (T : Tx w K mg) : mg "walk_end" = some (.ref (He.ga K "walk_end")) := T.glo (T.fact 76 (f := .glo "walk_end") rfl)
theorem Tx.g_answer (T : Tx w K mg) : mg "answer" = some (.ref (He.ga K "answer")) := T.glo (T.fact 77 (f := .glo "answer") rfl)
theorem Tx.g_answers (T : Tx w K mg) : mg "answers" = some (.ref (He.ga K "answers")) := T.glo (T.fact 78 (f := .glo "answers") rfl)
theorem Tx.g_Thread (T : Tx w K mg) : mg "Thread" = some (.ref (He.ga K "Thread")) := T.glo (T.fact 79 (f := .glo "Thread") rfl)
theorem Tx.g_Lock (T : Tx w K mg) : mg "Lock" = some (.ref (He.ga K "Lock")) := T.glo (T.fact 80 (f := .glo "Lock") rfl)
theorem Tx.g_Machine (T : Tx w K mg) : mg "Machine" = some (.ref (He.ga K "Machine")) := T.glo (T.fact 81 (f := .glo "Machine") rfl)
theorem Tx.g_Outcome (T : Tx w K mg) : mg "Outcome" = some (.ref (He.ga K "Outcome")) := T.glo (T.fact 82 (f := .glo "Outcome") rfl)
theorem Tx.g_Refusal (T : Tx w K mg) : mg "Refusal" = some (.ref (He.ga K "Refusal")) := T.glo (T.fact 83 (f := .glo "Refusal") rfl)
theorem Tx.g_Value (T : Tx w K mg) : mg "Value" = some (.ref (He.ga K "Value")) := T.glo (T.fact 84 (f := .glo "Value") rfl)
theorem Tx.g_Program (T : Tx w K mg) : mg "Program" = some (.ref (He.ga K "Program")) := T.glo (T.fact 85 (f := .glo "Program") rfl)
theorem Tx.g_Walk (T : Tx w K mg) : mg "Walk" = some (.ref (He.ga K "Walk")) := T.glo (T.fact 86 (f := .glo "Walk") rfl)
theorem Tx.g_Shelf (T : Tx w K mg) : mg "Shelf" = some (.ref (He.ga K "Shelf")) := T.glo (T.fact 87 (f := .glo "Shelf") rfl)
theorem Tx.g_LATE (T : Tx w K mg) : mg "LATE" = some (.ref (He.ga K "LATE")) := T.glo (T.fact 88 (f := .glo "LATE") rfl)
theorem Tx.g_MANY (T : Tx w K mg) : mg "MANY" = some (.ref (He.ga K "MANY")) := T.glo (T.fact 89 (f := .glo "MANY") rfl)
theorem Tx.g_MODES (T : Tx w K mg) : mg "MODES" = some (.ref (He.ga K "MODES")) := T.glo (T.fact 90 (f := .glo "MODES") rfl)
theorem Tx.g_SHAPES (T : Tx w K mg) : mg "SHAPES" = some (.ref (He.ga K "SHAPES")) := T.glo (T.fact 91 (f := .glo "SHAPES") rfl)
theorem Tx.g_DOORS (T : Tx w K mg) : mg "DOORS" = some (.ref (He.ga K "DOORS")) := T.glo (T.fact 92 (f := .glo "DOORS") rfl)
theorem Tx.f_range (T : Tx w K mg) : mg "range" = none := T.free (T.fact 93 (f := .free "range") rfl)
theorem Tx.f_len (T : Tx w K mg) : mg "len" = none := T.free (T.fact 94 (f := .free "len") rfl)
theorem Tx.f_list (T : Tx w K mg) : mg "list" = none := T.free (T.fact 95 (f := .free "list") rfl)
theorem Tx.f_tuple (T : Tx w K mg) : mg "tuple" = none := T.free (T.fact 96 (f := .free "tuple") rfl)
theorem Tx.f_zip (T : Tx w K mg) : mg "zip" = none := T.free (T.fact 97 (f := .free "zip") rfl)
theorem Tx.f_enumerate (T : Tx w K mg) : mg "enumerate" = none := T.free (T.fact 98 (f := .free "enumerate") rfl)
theorem Tx.f_min (T : Tx w K mg) : mg "min" = none := T.free (T.fact 99 (f := .free "min") rfl)
theorem Tx.f_any (T : Tx w K mg) : mg "any" = none := T.free (T.fact 100 (f := .free "any") rfl)
theorem Tx.f_ord (T : Tx w K mg) : mg "ord" = none := T.free (T.fact 101 (f := .free "ord") rfl)
theorem Tx.f_str (T : Tx w K mg) : mg "str" = none := T.free (T.fact 102 (f := .free "str") rfl)
theorem Tx.i_IDLE (T : Tx w K mg) : ∃ t, mg "IDLE" = some (.int (0) t) := T.int (T.fact 103 (f := .int "IDLE" (0)) rfl)
theorem Tx.i_RUNNING (T : Tx w K mg) : ∃ t, mg "RUNNING" = some (.int (1) t) := T.int (T.fact 104 (f := .int "RUNNING" (1)) rfl)
theorem Tx.i_WAITING (T : Tx w K mg) : ∃ t, mg "WAITING" = some (.int (2) t) := T.int (T.fact 105 (f := .int "WAITING" (2)) rfl)
theorem Tx.i_ENDED (T : Tx w K mg) : ∃ t, mg "ENDED" = some (.int (3) t) := T.int (T.fact 106 (f := .int "ENDED" (3)) rfl)
theorem Tx.i_HALF_machines (T : Tx w K mg) : ∃ t, mg "HALF_machines" = some (.int (2147483648) t) := T.int (T.fact 107 (f := .int "HALF_machines" (2147483648)) rfl)
theorem Tx.i_WHOLE (T : Tx w K mg) : ∃ t, mg "WHOLE" = some (.int (4294967296) t) := T.int (T.fact 108 (f := .int "WHOLE" (4294967296)) rfl)
theorem Tx.i_MOST_EVENTS (T : Tx w K mg) : ∃ t, mg "MOST_EVENTS" = some (.int (5000) t) := T.int (T.fact 109 (f := .int "MOST_EVENTS" (5000)) rfl)
theorem Tx.i_NOTHING (T : Tx w K mg) : ∃ t, mg "NOTHING" = some (.int (0) t) := T.int (T.fact 110 (f := .int "NOTHING" (0)) rfl)
theorem Tx.i_NULL (T : Tx w K mg) : ∃ t, mg "NULL" = some (.int (1) t) := T.int (T.fact 111 (f := .int "NULL" (1)) rfl)
theorem Tx.i_FALSE (T : Tx w K mg) : ∃ t, mg "FALSE" = some (.int (2) t) := T.int (T.fact 112 (f := .int "FALSE" (2)) rfl)
theorem Tx.i_TRUE (T : Tx w K mg) : ∃ t, mg "TRUE" = some (.int (3) t) := T.int (T.fact 113 (f := .int "TRUE" (3)) rfl)
theorem Tx.i_INTEGER (T : Tx w K mg) : ∃ t, mg "INTEGER" = some (.int (4) t) := T.int (T.fact 114 (f := .int "INTEGER" (4)) rfl)
theorem Tx.i_TEXT (T : Tx w K mg) : ∃ t, mg "TEXT" = some (.int (6) t) := T.int (T.fact 115 (f := .int "TEXT" (6)) rfl)
theorem Tx.i_LIST (T : Tx w K mg) : ∃ t, mg "LIST" = some (.int (7) t) := T.int (T.fact 116 (f := .int "LIST" (7)) rfl)
theorem Tx.i_RECORD (T : Tx w K mg) : ∃ t, mg "RECORD" = some (.int (8) t) := T.int (T.fact 117 (f := .int "RECORD" (8)) rfl)
theorem Tx.i_WRONG_KIND (T : Tx w K mg) : ∃ t, mg "WRONG_KIND" = some (.int (1) t) := T.int (T.fact 118 (f := .int "WRONG_KIND" (1)) rfl)
theorem Tx.i_OUT_OF_RANGE (T : Tx w K mg) : ∃ t, mg "OUT_OF_RANGE" = some (.int (2) t) := T.int (T.fact 119 (f := .int "OUT_OF_RANGE" (2)) rfl)
theorem Tx.i_EIGHT (T : Tx w K mg) : ∃ t, mg "EIGHT" = some (.int (18446744073709551616) t) := T.int (T.fact 120 (f := .int "EIGHT" (18446744073709551616)) rfl)
theorem Tx.i_HALF_octets (T : Tx w K mg) : ∃ t, mg "HALF_octets" = some (.int (9223372036854775808) t) := T.int (T.fact 121 (f := .int "HALF_octets" (9223372036854775808)) rfl)
theorem Tx.i_LEAST_WORD (T : Tx w K mg) : ∃ t, mg "LEAST_WORD" = some (.int (-2147483648) t) := T.int (T.fact 122 (f := .int "LEAST_WORD" (-2147483648)) rfl)
theorem Tx.i_GREATEST_WORD (T : Tx w K mg) : ∃ t, mg "GREATEST_WORD" = some (.int (2147483647) t) := T.int (T.fact 123 (f := .int "GREATEST_WORD" (2147483647)) rfl)
theorem Tx.i_MOST_LOCKS (T : Tx w K mg) : ∃ t, mg "MOST_LOCKS" = some (.int (4) t) := T.int (T.fact 124 (f := .int "MOST_LOCKS" (4)) rfl)
theorem Tx.i_MOST_CONDITIONS (T : Tx w K mg) : ∃ t, mg "MOST_CONDITIONS" = some (.int (4) t) := T.int (T.fact 125 (f := .int "MOST_CONDITIONS" (4)) rfl)
theorem Tx.i_MOST_SHARED (T : Tx w K mg) : ∃ t, mg "MOST_SHARED" = some (.int (6) t) := T.int (T.fact 126 (f := .int "MOST_SHARED" (6)) rfl)
theorem Tx.i_MOST_THREADS (T : Tx w K mg) : ∃ t, mg "MOST_THREADS" = some (.int (4) t) := T.int (T.fact 127 (f := .int "MOST_THREADS" (4)) rfl)
theorem Tx.i_MOST_CODE (T : Tx w K mg) : ∃ t, mg "MOST_CODE" = some (.int (30) t) := T.int (T.fact 128 (f := .int "MOST_CODE" (30)) rfl)
theorem Tx.i_MOST_WEIGHT (T : Tx w K mg) : ∃ t, mg "MOST_WEIGHT" = some (.int (9) t) := T.int (T.fact 129 (f := .int "MOST_WEIGHT" (9)) rfl)
theorem Tx.i_LAST_REGISTER (T : Tx w K mg) : ∃ t, mg "LAST_REGISTER" = some (.int (3) t) := T.int (T.fact 130 (f := .int "LAST_REGISTER" (3)) rfl)
theorem Tx.c_Thread (T : Tx w K mg) : Cls K (He.ga K "Thread") := He.cls_ok (T.fact 131 (f := .cls "Thread") rfl)
theorem Tx.m_Thread (T : Tx w K mg) : Mk K (He.ga K "Thread") (He.ma K (He.ga K "Thread") "__init__") := He.mkr_ok (T.fact 132 (f := .mkr "Thread") rfl)
theorem Tx.n_Thread_code (T : Tx w K mg) : NoAttr K (He.ga K "Thread") "code" := He.noat_ok (T.fact 133 (f := .noat "Thread" "code") rfl)
theorem Tx.n_Thread_weight (T : Tx w K mg) : NoAttr K (He.ga K "Thread") "weight" := He.noat_ok (T.fact 134 (f := .noat "Thread" "weight") rfl)
theorem Tx.n_Thread_mode (T : Tx w K mg) : NoAttr K (He.ga K "Thread") "mode" := He.noat_ok (T.fact 135 (f := .noat "Thread" "mode") rfl)
theorem Tx.n_Thread_place (T : Tx w K mg) : NoAttr K (He.ga K "Thread") "place" := He.noat_ok (T.fact 136 (f := .noat "Thread" "place") rfl)
theorem Tx.n_Thread_registers (T : Tx w K mg) : NoAttr K (He.ga K "Thread") "registers" := He.noat_ok (T.fact 137 (f := .noat "Thread" "registers") rfl)
theorem Tx.n_Thread_printed (T : Tx w K mg) : NoAttr K (He.ga K "Thread") "printed" := He.noat_ok (T.fact 138 (f := .noat "Thread" "printed") rfl)
theorem Tx.n_Thread_wanted (T : Tx w K mg) : NoAttr K (He.ga K "Thread") "wanted" := He.noat_ok (T.fact 139 (f := .noat "Thread" "wanted") rfl)
theorem Tx.n_Thread_clock (T : Tx w K mg) : NoAttr K (He.ga K "Thread") "clock" := He.noat_ok (T.fact 140 (f := .noat "Thread" "clock") rfl)
theorem Tx.n_Thread_events (T : Tx w K mg) : NoAttr K (He.ga K "Thread") "events" := He.noat_ok (T.fact 141 (f := .noat "Thread" "events") rfl)
theorem Tx.c_Lock (T : Tx w K mg) : Cls K (He.ga K "Lock") := He.cls_ok (T.fact 142 (f := .cls "Lock") rfl)
theorem Tx.m_Lock (T : Tx w K mg) : Mk K (He.ga K "Lock") (He.ma K (He.ga K "Lock") "__init__") := He.mkr_ok (T.fact 143 (f := .mkr "Lock") rfl)
theorem Tx.n_Lock_holder (T : Tx w K mg) : NoAttr K (He.ga K "Lock") "holder" := He.noat_ok (T.fact 144 (f := .noat "Lock" "holder") rfl)
theorem Tx.n_Lock_order (T : Tx w K mg) : NoAttr K (He.ga K "Lock") "order" := He.noat_ok (T.fact 145 (f := .noat "Lock" "order") rfl)
theorem Tx.n_Lock_freed (T : Tx w K mg) : NoAttr K (He.ga K "Lock") "freed" := He.noat_ok (T.fact 146 (f := .noat "Lock" "freed") rfl)
theorem Tx.c_Machine (T : Tx w K mg) : Cls K (He.ga K "Machine") := He.cls_ok (T.fact 147 (f := .cls "Machine") rfl)
theorem Tx.m_Machine (T : Tx w K mg) : Mk K (He.ga K "Machine") (He.ma K (He.ga K "Machine") "__init__") := He.mkr_ok (T.fact 148 (f := .mkr "Machine") rfl)
theorem Tx.n_Machine_program (T : Tx w K mg) : NoAttr K (He.ga K "Machine") "program" := He.noat_ok (T.fact 149 (f := .noat "Machine" "program") rfl)
theorem Tx.n_Machine_threads (T : Tx w K mg) : NoAttr K (He.ga K "Machine") "threads" := He.noat_ok (T.fact 150 (f := .noat "Machine" "threads") rfl)
theorem Tx.n_Machine_contents (T : Tx w K mg) : NoAttr K (He.ga K "Machine") "contents" := He.noat_ok (T.fact 151 (f := .noat "Machine" "contents") rfl)
theorem Tx.n_Machine_locks (T : Tx w K mg) : NoAttr K (He.ga K "Machine") "locks" := He.noat_ok (T.fact 152 (f := .noat "Machine" "locks") rfl)
theorem Tx.n_Machine_queues (T : Tx w K mg) : NoAttr K (He.ga K "Machine") "queues" := He.noat_ok (T.fact 153 (f := .noat "Machine" "queues") rfl)
theorem Tx.n_Machine_events (T : Tx w K mg) : NoAttr K (He.ga K "Machine") "events" := He.noat_ok (T.fact 154 (f := .noat "Machine" "events") rfl)
theorem Tx.c_Outcome (T : Tx w K mg) : Cls K (He.ga K "Outcome") := He.cls_ok (T.fact 155 (f := .cls "Outcome") rfl)
theorem Tx.m_Outcome (T : Tx w K mg) : Mk K (He.ga K "Outcome") (He.ma K (He.ga K "Outcome") "__init__") := He.mkr_ok (T.fact 156 (f := .mkr "Outcome") rfl)
theorem Tx.n_Outcome_ending (T : Tx w K mg) : NoAttr K (He.ga K "Outcome") "ending" := He.noat_ok (T.fact 157 (f := .noat "Outcome" "ending") rfl)
theorem Tx.n_Outcome_length (T : Tx w K mg) : NoAttr K (He.ga K "Outcome") "length" := He.noat_ok (T.fact 158 (f := .noat "Outcome" "length") rfl)
theorem Tx.n_Outcome_race (T : Tx w K mg) : NoAttr K (He.ga K "Outcome") "race" := He.noat_ok (T.fact 159 (f := .noat "Outcome" "race") rfl)
theorem Tx.n_Refusal_kind (T : Tx w K mg) : NoAttr K (He.ga K "Refusal") "kind" := He.noat_ok (T.fact 160 (f := .noat "Refusal" "kind") rfl)
theorem Tx.n_Refusal_message (T : Tx w K mg) : NoAttr K (He.ga K "Refusal") "message" := He.noat_ok (T.fact 161 (f := .noat "Refusal" "message") rfl)
theorem Tx.c_Value (T : Tx w K mg) : Cls K (He.ga K "Value") := He.cls_ok (T.fact 162 (f := .cls "Value") rfl)
theorem Tx.m_Value (T : Tx w K mg) : Mk K (He.ga K "Value") (He.ma K (He.ga K "Value") "__init__") := He.mkr_ok (T.fact 163 (f := .mkr "Value") rfl)
theorem Tx.n_Value_kind (T : Tx w K mg) : NoAttr K (He.ga K "Value") "kind" := He.noat_ok (T.fact 164 (f := .noat "Value" "kind") rfl)
theorem Tx.n_Value_held (T : Tx w K mg) : NoAttr K (He.ga K "Value") "held" := He.noat_ok (T.fact 165 (f := .noat "Value" "held") rfl)
theorem Tx.c_Program (T : Tx w K mg) : Cls K (He.ga K "Program") := He.cls_ok (T.fact 166 (f := .cls "Program") rfl)
theorem Tx.m_Program (T : Tx w K mg) : Mk K (He.ga K "Program") (He.ma K (He.ga K "Program") "__init__") := He.mkr_ok (T.fact 167 (f := .mkr "Program") rfl)
theorem Tx.n_Program_locks (T : Tx w K mg) : NoAttr K (He.ga K "Program") "locks" := He.noat_ok (T.fact 168 (f := .noat "Program" "locks") rfl)
theorem Tx.n_Program_conditions (T : Tx w K mg) : NoAttr K (He.ga K "Program") "conditions" := He.noat_ok (T.fact 169 (f := .noat "Program" "conditions") rfl)
theorem Tx.n_Program_contents (T : Tx w K mg) : NoAttr K (He.ga K "Program") "contents" := He.noat_ok (T.fact 170 (f := .noat "Program" "contents") rfl)
theorem Tx.n_Program_guards (T : Tx w K mg) : NoAttr K (He.ga K "Program") "guards" := He.noat_ok (T.fact 171 (f := .noat "Program" "guards") rfl)
theorem Tx.n_Program_weights (T : Tx w K mg) : NoAttr K (He.ga K "Program") "weights" := He.noat_ok (T.fact 172 (f := .noat "Program" "weights") rfl)
theorem Tx.n_Program_started (T : Tx w K mg) : NoAttr K (He.ga K "Program") "started" := He.noat_ok (T.fact 173 (f := .noat "Program" "started") rfl)
theorem Tx.n_Program_codes (T : Tx w K mg) : NoAttr K (He.ga K "Program") "codes" := He.noat_ok (T.fact 174 (f := .noat "Program" "codes") rfl)
theorem Tx.c_Walk (T : Tx w K mg) : Cls K (He.ga K "Walk") := He.cls_ok (T.fact 175 (f := .cls "Walk") rfl)
theorem Tx.m_Walk (T : Tx w K mg) : Mk K (He.ga K "Walk") (He.ma K (He.ga K "Walk") "__init__") := He.mkr_ok (T.fact 176 (f := .mkr "Walk") rfl)
theorem Tx.n_Walk_machine (T : Tx w K mg) : NoAttr K (He.ga K "Walk") "machine" := He.noat_ok (T.fact 177 (f := .noat "Walk" "machine") rfl)
theorem Tx.n_Walk_is_over (T : Tx w K mg) : NoAttr K (He.ga K "Walk") "is_over" := He.noat_ok (T.fact 178 (f := .noat "Walk" "is_over") rfl)
theorem Tx.c_Shelf (T : Tx w K mg) : Cls K (He.ga K "Shelf") := He.cls_ok (T.fact 179 (f := .cls "Shelf") rfl)
theorem Tx.m_Shelf (T : Tx w K mg) : Mk K (He.ga K "Shelf") (He.ma K (He.ga K "Shelf") "__init__") := He.mkr_ok (T.fact 180 (f := .mkr "Shelf") rfl)
theorem Tx.n_Shelf_programs (T : Tx w K mg) : NoAttr K (He.ga K "Shelf") "programs" := He.noat_ok (T.fact 181 (f := .noat "Shelf" "programs") rfl)
theorem Tx.n_Shelf_runs (T : Tx w K mg) : NoAttr K (He.ga K "Shelf") "runs" := He.noat_ok (T.fact 182 (f := .noat "Shelf" "runs") rfl)
theorem Tx.n_Shelf_walks (T : Tx w K mg) : NoAttr K (He.ga K "Shelf") "walks" := He.noat_ok (T.fact 183 (f := .noat "Shelf" "walks") rfl)
theorem Tx.fd_thread_copy (T : Tx w K mg) : ∃ fd, FunD K d_thread_copy.name d_thread_copy.qual d_thread_copy.params d_thread_copy.body d_thread_copy.scope [] [] (He.fAd K d_thread_copy.at_) fd := T.def_ 0 (d := d_thread_copy) rfl
theorem Tx.fd_lock_copy (T : Tx w K mg) : ∃ fd, FunD K d_lock_copy.name d_lock_copy.qual d_lock_copy.params d_lock_copy.body d_lock_copy.scope [] [] (He.fAd K d_lock_copy.at_) fd := T.def_ 1 (d := d_lock_copy) rfl
theorem Tx.fd_machine_copy (T : Tx w K mg) : ∃ fd, FunD K d_machine_copy.name d_machine_copy.qual d_machine_copy.params d_machine_copy.body d_machine_copy.scope [] [] (He.fAd K d_machine_copy.at_) fd := T.def_ 2 (d := d_machine_copy) rfl
theorem Tx.fd_time_of (T : Tx w K mg) : ∃ fd, FunD K d_time_of.name d_time_of.qual d_time_of.params d_time_of.body d_time_of.scope [] [] (He.fAd K d_time_of.at_) fd := T.def_ 3 (d := d_time_of) rfl
theorem Tx.fd_least_of (T : Tx w K mg) : ∃ fd, FunD K d_least_of.name d_least_of.qual d_least_of.params d_least_of.body d_least_of.scope [] [] (He.fAd K d_least_of.at_) fd := T.def_ 4 (d := d_least_of) rfl
theorem Tx.fd_event_of (T : Tx w K mg) : ∃ fd, FunD K d_event_of.name d_event_of.qual d_event_of.params d_event_of.body d_event_of.scope [] [] (He.fAd K d_event_of.at_) fd := T.def_ 5 (d := d_event_of) rfl
theorem Tx.fd_can_go (T : Tx w K mg) : ∃ fd, FunD K d_can_go.name d_can_go.qual d_can_go.params d_can_go.body d_can_go.scope [] [] (He.fAd K d_can_go.at_) fd := T.def_ 6 (d := d_can_go) rfl
theorem Tx.fd_choices_of (T : Tx w K mg) : ∃ fd, FunD K d_choices_of.name d_choices_of.qual d_choices_of.params d_choices_of.body d_choices_of.scope [] [] (He.fAd K d_choices_of.at_) fd := T.def_ 7 (d := d_choices_of) rfl
theorem Tx.fd_wrapped (T : Tx w K mg) : ∃ fd, FunD K d_wrapped.name d_wrapped.qual d_wrapped.params d_wrapped.body d_wrapped.scope [] [] (He.fAd K d_wrapped.at_) fd := T.def_ 8 (d := d_wrapped) rfl
theorem Tx.fd_reckon (T : Tx w K mg) : ∃ fd, FunD K d_reckon.name d_reckon.qual d_reckon.params d_reckon.body d_reckon.scope [] [] (He.fAd K d_reckon.at_) fd := T.def_ 9 (d := d_reckon) rfl
theorem Tx.fd_take_lock (T : Tx w K mg) : ∃ fd, FunD K d_take_lock.name d_take_lock.qual d_take_lock.params d_take_lock.body d_take_lock.scope [] [] (He.fAd K d_take_lock.at_) fd := T.def_ 10 (d := d_take_lock) rfl
theorem Tx.fd_free_lock (T : Tx w K mg) : ∃ fd, FunD K d_free_lock.name d_free_lock.qual d_free_lock.params d_free_lock.body d_free_lock.scope [] [] (He.fAd K d_free_lock.at_) fd := T.def_ 11 (d := d_free_lock) rfl
theorem Tx.fd_wait (T : Tx w K mg) : ∃ fd, FunD K d_wait.name d_wait.qual d_wait.params d_wait.body d_wait.scope [] [] (He.fAd K d_wait.at_) fd := T.def_ 12 (d := d_wait) rfl
theorem Tx.fd_wake (T : Tx w K mg) : ∃ fd, FunD K d_wake.name d_wake.qual d_wake.params d_wake.body d_wake.scope [] [] (He.fAd K d_wake.at_) fd := T.def_ 13 (d := d_wake) rfl
theorem Tx.fd_start (T : Tx w K mg) : ∃ fd, FunD K d_start.name d_start.qual d_start.params d_start.body d_start.scope [] [] (He.fAd K d_start.at_) fd := T.def_ 14 (d := d_start) rfl
theorem Tx.fd_join (T : Tx w K mg) : ∃ fd, FunD K d_join.name d_join.qual d_join.params d_join.body d_join.scope [] [] (He.fAd K d_join.at_) fd := T.def_ 15 (d := d_join) rfl
theorem Tx.fd_meet (T : Tx w K mg) : ∃ fd, FunD K d_meet.name d_meet.qual d_meet.params d_meet.body d_meet.scope [] [] (He.fAd K d_meet.at_) fd := T.def_ 16 (d := d_meet) rfl
theorem Tx.fd_do_event (T : Tx w K mg) : ∃ fd, FunD K d_do_event.name d_do_event.qual d_do_event.params d_do_event.body d_do_event.scope [] [] (He.fAd K d_do_event.at_) fd := T.def_ 17 (d := d_do_event) rfl
theorem Tx.fd_variable_in (T : Tx w K mg) : ∃ fd, FunD K d_variable_in.name d_variable_in.qual d_variable_in.params d_variable_in.body d_variable_in.scope [] [] (He.fAd K d_variable_in.at_) fd := T.def_ 18 (d := d_variable_in) rfl
theorem Tx.fd_race_of (T : Tx w K mg) : ∃ fd, FunD K d_race_of.name d_race_of.qual d_race_of.params d_race_of.body d_race_of.scope [] [] (He.fAd K d_race_of.at_) fd := T.def_ 19 (d := d_race_of) rfl
theorem Tx.fd_conflicts_of (T : Tx w K mg) : ∃ fd, FunD K d_conflicts_of.name d_conflicts_of.qual d_conflicts_of.params d_conflicts_of.body d_conflicts_of.scope [] [] (He.fAd K d_conflicts_of.at_) fd := T.def_ 20 (d := d_conflicts_of) rfl
theorem Tx.fd_is_waiting (T : Tx w K mg) : ∃ fd, FunD K d_is_waiting.name d_is_waiting.qual d_is_waiting.params d_is_waiting.body d_is_waiting.scope [] [] (He.fAd K d_is_waiting.at_) fd := T.def_ 21 (d := d_is_waiting) rfl
theorem Tx.fd_one_run (T : Tx w K mg) : ∃ fd, FunD K d_one_run.name d_one_run.qual d_one_run.params d_one_run.body d_one_run.scope [] [] (He.fAd K d_one_run.at_) fd := T.def_ 22 (d := d_one_run) rfl
theorem Tx.fd_one_after (T : Tx w K mg) : ∃ fd, FunD K d_one_after.name d_one_after.qual d_one_after.params d_one_after.body d_one_after.scope [] [] (He.fAd K d_one_after.at_) fd := T.def_ 23 (d := d_one_after) rfl
theorem Tx.fd_is_behind (T : Tx w K mg) : ∃ fd, FunD K d_is_behind.name d_is_behind.qual d_is_behind.params d_is_behind.body d_is_behind.scope [] [] (He.fAd K d_is_behind.at_) fd := T.def_ 24 (d := d_is_behind) rfl
theorem Tx.fd_place_for (T : Tx w K mg) : ∃ fd, FunD K d_place_for.name d_place_for.qual d_place_for.params d_place_for.body d_place_for.scope [] [] (He.fAd K d_place_for.at_) fd := T.def_ 25 (d := d_place_for) rfl
theorem Tx.fd_next_for (T : Tx w K mg) : ∃ fd, FunD K d_next_for.name d_next_for.qual d_next_for.params d_next_for.body d_next_for.scope [] [] (He.fAd K d_next_for.at_) fd := T.def_ 26 (d := d_next_for) rfl
theorem Tx.fd_rejoin (T : Tx w K mg) : ∃ fd, FunD K d_rejoin.name d_rejoin.qual d_rejoin.params d_rejoin.body d_rejoin.scope [] [] (He.fAd K d_rejoin.at_) fd := T.def_ 27 (d := d_rejoin) rfl
theorem Tx.fd_octets_of (T : Tx w K mg) : ∃ fd, FunD K d_octets_of.name d_octets_of.qual d_octets_of.params d_octets_of.body d_octets_of.scope [] [] (He.fAd K d_octets_of.at_) fd := T.def_ 28 (d := d_octets_of) rfl
theorem Tx.fd_nothing (T : Tx w K mg) : ∃ fd, FunD K d_nothing.name d_nothing.qual d_nothing.params d_nothing.body d_nothing.scope [] [] (He.fAd K d_nothing.at_) fd := T.def_ 29 (d := d_nothing) rfl
theorem Tx.fd_null (T : Tx w K mg) : ∃ fd, FunD K d_null.name d_null.qual d_null.params d_null.body d_null.scope [] [] (He.fAd K d_null.at_) fd := T.def_ 30 (d := d_null) rfl
theorem Tx.fd_integer (T : Tx w K mg) : ∃ fd, FunD K d_integer.name d_integer.qual d_integer.params d_integer.body d_integer.scope [] [] (He.fAd K d_integer.at_) fd := T.def_ 31 (d := d_integer) rfl
theorem Tx.fd_truth (T : Tx w K mg) : ∃ fd, FunD K d_truth.name d_truth.qual d_truth.params d_truth.body d_truth.scope [] [] (He.fAd K d_truth.at_) fd := T.def_ 32 (d := d_truth) rfl
theorem Tx.fd_text_of (T : Tx w K mg) : ∃ fd, FunD K d_text_of.name d_text_of.qual d_text_of.params d_text_of.body d_text_of.scope [] [] (He.fAd K d_text_of.at_) fd := T.def_ 33 (d := d_text_of) rfl
theorem Tx.fd_list_of (T : Tx w K mg) : ∃ fd, FunD K d_list_of.name d_list_of.qual d_list_of.params d_list_of.body d_list_of.scope [] [] (He.fAd K d_list_of.at_) fd := T.def_ 34 (d := d_list_of) rfl
theorem Tx.fd_record_of (T : Tx w K mg) : ∃ fd, FunD K d_record_of.name d_record_of.qual d_record_of.params d_record_of.body d_record_of.scope [] [] (He.fAd K d_record_of.at_) fd := T.def_ 35 (d := d_record_of) rfl
theorem Tx.fd_demand (T : Tx w K mg) : ∃ fd, FunD K d_demand.name d_demand.qual d_demand.params d_demand.body d_demand.scope [] [] (He.fAd K d_demand.at_) fd := T.def_ 36 (d := d_demand) rfl
theorem Tx.fd_number_at (T : Tx w K mg) : ∃ fd, FunD K d_number_at.name d_number_at.qual d_number_at.params d_number_at.body d_number_at.scope [] [] (He.fAd K d_number_at.at_) fd := T.def_ 37 (d := d_number_at) rfl
theorem Tx.fd_integer_at (T : Tx w K mg) : ∃ fd, FunD K d_integer_at.name d_integer_at.qual d_integer_at.params d_integer_at.body d_integer_at.scope [] [] (He.fAd K d_integer_at.at_) fd := T.def_ 38 (d := d_integer_at) rfl
theorem Tx.fd_text_at (T : Tx w K mg) : ∃ fd, FunD K d_text_at.name d_text_at.qual d_text_at.params d_text_at.body d_text_at.scope [] [] (He.fAd K d_text_at.at_) fd := T.def_ 39 (d := d_text_at) rfl
theorem Tx.fd_list_at (T : Tx w K mg) : ∃ fd, FunD K d_list_at.name d_list_at.qual d_list_at.params d_list_at.body d_list_at.scope [] [] (He.fAd K d_list_at.at_) fd := T.def_ 40 (d := d_list_at) rfl
theorem Tx.fd_members_at (T : Tx w K mg) : ∃ fd, FunD K d_members_at.name d_members_at.qual d_members_at.params d_members_at.body d_members_at.scope [] [] (He.fAd K d_members_at.at_) fd := T.def_ 41 (d := d_members_at) rfl
theorem Tx.fd_value_at (T : Tx w K mg) : ∃ fd, FunD K d_value_at.name d_value_at.qual d_value_at.params d_value_at.body d_value_at.scope [] [] (He.fAd K d_value_at.at_) fd := T.def_ 42 (d := d_value_at) rfl
theorem Tx.fd_number_octets (T : Tx w K mg) : ∃ fd, FunD K d_number_octets.name d_number_octets.qual d_number_octets.params d_number_octets.body d_number_octets.scope [] [] (He.fAd K d_number_octets.at_) fd := T.def_ 43 (d := d_number_octets) rfl
theorem Tx.fd_counted (T : Tx w K mg) : ∃ fd, FunD K d_counted.name d_counted.qual d_counted.params d_counted.body d_counted.scope [] [] (He.fAd K d_counted.at_) fd := T.def_ 44 (d := d_counted) rfl
theorem Tx.fd_written (T : Tx w K mg) : ∃ fd, FunD K d_written.name d_written.qual d_written.params d_written.body d_written.scope [] [] (He.fAd K d_written.at_) fd := T.def_ 45 (d := d_written) rfl
theorem Tx.fd_request_of (T : Tx w K mg) : ∃ fd, FunD K d_request_of.name d_request_of.qual d_request_of.params d_request_of.body d_request_of.scope [] [] (He.fAd K d_request_of.at_) fd := T.def_ 46 (d := d_request_of) rfl
theorem Tx.fd_member (T : Tx w K mg) : ∃ fd, FunD K d_member.name d_member.qual d_member.params d_member.body d_member.scope [] [] (He.fAd K d_member.at_) fd := T.def_ 47 (d := d_member) rfl
theorem Tx.fd_is_between (T : Tx w K mg) : ∃ fd, FunD K d_is_between.name d_is_between.qual d_is_between.params d_is_between.body d_is_between.scope [] [] (He.fAd K d_is_between.at_) fd := T.def_ 48 (d := d_is_between) rfl
theorem Tx.fd_expect (T : Tx w K mg) : ∃ fd, FunD K d_expect.name d_expect.qual d_expect.params d_expect.body d_expect.scope [] [] (He.fAd K d_expect.at_) fd := T.def_ 49 (d := d_expect) rfl
theorem Tx.fd_expect_number (T : Tx w K mg) : ∃ fd, FunD K d_expect_number.name d_expect_number.qual d_expect_number.params d_expect_number.body d_expect_number.scope [] [] (He.fAd K d_expect_number.at_) fd := T.def_ 50 (d := d_expect_number) rfl
theorem Tx.fd_read_shared (T : Tx w K mg) : ∃ fd, FunD K d_read_shared.name d_read_shared.qual d_read_shared.params d_read_shared.body d_read_shared.scope [] [] (He.fAd K d_read_shared.at_) fd := T.def_ 51 (d := d_read_shared) rfl
theorem Tx.fd_bounds_of (T : Tx w K mg) : ∃ fd, FunD K d_bounds_of.name d_bounds_of.qual d_bounds_of.params d_bounds_of.body d_bounds_of.scope [] [] (He.fAd K d_bounds_of.at_) fd := T.def_ 52 (d := d_bounds_of) rfl
theorem Tx.fd_word_of (T : Tx w K mg) : ∃ fd, FunD K d_word_of.name d_word_of.qual d_word_of.params d_word_of.body d_word_of.scope [] [] (He.fAd K d_word_of.at_) fd := T.def_ 53 (d := d_word_of) rfl
theorem Tx.fd_instruction_of (T : Tx w K mg) : ∃ fd, FunD K d_instruction_of.name d_instruction_of.qual d_instruction_of.params d_instruction_of.body d_instruction_of.scope [] [] (He.fAd K d_instruction_of.at_) fd := T.def_ 54 (d := d_instruction_of) rfl
theorem Tx.fd_read_thread (T : Tx w K mg) : ∃ fd, FunD K d_read_thread.name d_read_thread.qual d_read_thread.params d_read_thread.body d_read_thread.scope [] [] (He.fAd K d_read_thread.at_) fd := T.def_ 55 (d := d_read_thread) rfl
theorem Tx.fd_program_of (T : Tx w K mg) : ∃ fd, FunD K d_program_of.name d_program_of.qual d_program_of.params d_program_of.body d_program_of.scope [] [] (He.fAd K d_program_of.at_) fd := T.def_ 56 (d := d_program_of) rfl
theorem Tx.fd_optional (T : Tx w K mg) : ∃ fd, FunD K d_optional.name d_optional.qual d_optional.params d_optional.body d_optional.scope [] [] (He.fAd K d_optional.at_) fd := T.def_ 57 (d := d_optional) rfl
theorem Tx.fd_integers (T : Tx w K mg) : ∃ fd, FunD K d_integers.name d_integers.qual d_integers.params d_integers.body d_integers.scope [] [] (He.fAd K d_integers.at_) fd := T.def_ 58 (d := d_integers) rfl
theorem Tx.fd_thread_value (T : Tx w K mg) : ∃ fd, FunD K d_thread_value.name d_thread_value.qual d_thread_value.params d_thread_value.body d_thread_value.scope [] [] (He.fAd K d_thread_value.at_) fd := T.def_ 59 (d := d_thread_value) rfl
theorem Tx.fd_machine_members (T : Tx w K mg) : ∃ fd, FunD K d_machine_members.name d_machine_members.qual d_machine_members.params d_machine_members.body d_machine_members.scope [] [] (He.fAd K d_machine_members.at_) fd := T.def_ 60 (d := d_machine_members) rfl
theorem Tx.fd_program_new (T : Tx w K mg) : ∃ fd, FunD K d_program_new.name d_program_new.qual d_program_new.params d_program_new.body d_program_new.scope [] [] (He.fAd K d_program_new.at_) fd := T.def_ 61 (d := d_program_new) rfl
theorem Tx.fd_race_value (T : Tx w K mg) : ∃ fd, FunD K d_race_value.name d_race_value.qual d_race_value.params d_race_value.body d_race_value.scope [] [] (He.fAd K d_race_value.at_) fd := T.def_ 62 (d := d_race_value) rfl
theorem Tx.fd_program_one (T : Tx w K mg) : ∃ fd, FunD K d_program_one.name d_program_one.qual d_program_one.params d_program_one.body d_program_one.scope [] [] (He.fAd K d_program_one.at_) fd := T.def_ 63 (d := d_program_one) rfl
theorem Tx.fd_program_after (T : Tx w K mg) : ∃ fd, FunD K d_program_after.name d_program_after.qual d_program_after.params d_program_after.body d_program_after.scope [] [] (He.fAd K d_program_after.at_) fd := T.def_ 64 (d := d_program_after) rfl
theorem Tx.fd_run_new (T : Tx w K mg) : ∃ fd, FunD K d_run_new.name d_run_new.qual d_run_new.params d_run_new.body d_run_new.scope [] [] (He.fAd K d_run_new.at_) fd := T.def_ 65 (d := d_run_new) rfl
theorem Tx.fd_run_fork (T : Tx w K mg) : ∃ fd, FunD K d_run_fork.name d_run_fork.qual d_run_fork.params d_run_fork.body d_run_fork.scope [] [] (He.fAd K d_run_fork.at_) fd := T.def_ 66 (d := d_run_fork) rfl
theorem Tx.fd_run_in (T : Tx w K mg) : ∃ fd, FunD K d_run_in.name d_run_in.qual d_run_in.params d_run_in.body d_run_in.scope [] [] (He.fAd K d_run_in.at_) fd := T.def_ 67 (d := d_run_in) rfl
theorem Tx.fd_run_state (T : Tx w K mg) : ∃ fd, FunD K d_run_state.name d_run_state.qual d_run_state.params d_run_state.body d_run_state.scope [] [] (He.fAd K d_run_state.at_) fd := T.def_ 68 (d := d_run_state) rfl
theorem Tx.fd_run_choices (T : Tx w K mg) : ∃ fd, FunD K d_run_choices.name d_run_choices.qual d_run_choices.params d_run_choices.body d_run_choices.scope [] [] (He.fAd K d_run_choices.at_) fd := T.def_ 69 (d := d_run_choices) rfl
theorem Tx.fd_run_conflicts (T : Tx w K mg) : ∃ fd, FunD K d_run_conflicts.name d_run_conflicts.qual d_run_conflicts.params d_run_conflicts.body d_run_conflicts.scope [] [] (He.fAd K d_run_conflicts.at_) fd := T.def_ 70 (d := d_run_conflicts) rfl
theorem Tx.fd_run_step (T : Tx w K mg) : ∃ fd, FunD K d_run_step.name d_run_step.qual d_run_step.params d_run_step.body d_run_step.scope [] [] (He.fAd K d_run_step.at_) fd := T.def_ 71 (d := d_run_step) rfl
theorem Tx.fd_run_rejoin (T : Tx w K mg) : ∃ fd, FunD K d_run_rejoin.name d_run_rejoin.qual d_run_rejoin.params d_run_rejoin.body d_run_rejoin.scope [] [] (He.fAd K d_run_rejoin.at_) fd := T.def_ 72 (d := d_run_rejoin) rfl
theorem Tx.fd_result (T : Tx w K mg) : ∃ fd, FunD K d_result.name d_result.qual d_result.params d_result.body d_result.scope [] [] (He.fAd K d_result.at_) fd := T.def_ 73 (d := d_result) rfl
theorem Tx.fd_walk_new (T : Tx w K mg) : ∃ fd, FunD K d_walk_new.name d_walk_new.qual d_walk_new.params d_walk_new.body d_walk_new.scope [] [] (He.fAd K d_walk_new.at_) fd := T.def_ 74 (d := d_walk_new) rfl
theorem Tx.fd_walk_next (T : Tx w K mg) : ∃ fd, FunD K d_walk_next.name d_walk_next.qual d_walk_next.params d_walk_next.body d_walk_next.scope [] [] (He.fAd K d_walk_next.at_) fd := T.def_ 75 (d := d_walk_next) rfl
theorem Tx.fd_walk_end (T : Tx w K mg) : ∃ fd, FunD K d_walk_end.name d_walk_end.qual d_walk_end.params d_walk_end.body d_walk_end.scope [] [] (He.fAd K d_walk_end.at_) fd := T.def_ 76 (d := d_walk_end) rfl
theorem Tx.fd_answer (T : Tx w K mg) : ∃ fd, FunD K d_answer.name d_answer.qual d_answer.params d_answer.body d_answer.scope [] [] (He.fAd K d_answer.at_) fd := T.def_ 77 (d := d_answer) rfl
theorem Tx.fd_answers (T : Tx w K mg) : ∃ fd, FunD K d_answers.name d_answers.qual d_answers.params d_answers.body d_answers.scope [] [] (He.fAd K d_answers.at_) fd := T.def_ 78 (d := d_answers) rfl
theorem Tx.fd_init_Thread (T : Tx w K mg) : ∃ fd, FunD K d_init_Thread.name d_init_Thread.qual d_init_Thread.params d_init_Thread.body d_init_Thread.scope [] [] (He.fAd K d_init_Thread.at_) fd := T.def_ 79 (d := d_init_Thread) rfl
theorem Tx.fd_init_Lock (T : Tx w K mg) : ∃ fd, FunD K d_init_Lock.name d_init_Lock.qual d_init_Lock.params d_init_Lock.body d_init_Lock.scope [] [] (He.fAd K d_init_Lock.at_) fd := T.def_ 80 (d := d_init_Lock) rfl
theorem Tx.fd_init_Machine (T : Tx w K mg) : ∃ fd, FunD K d_init_Machine.name d_init_Machine.qual d_init_Machine.params d_init_Machine.body d_init_Machine.scope [] [] (He.fAd K d_init_Machine.at_) fd := T.def_ 81 (d := d_init_Machine) rfl
theorem Tx.fd_init_Outcome (T : Tx w K mg) : ∃ fd, FunD K d_init_Outcome.name d_init_Outcome.qual d_init_Outcome.params d_init_Outcome.body d_init_Outcome.scope [] [] (He.fAd K d_init_Outcome.at_) fd := T.def_ 82 (d := d_init_Outcome) rfl
theorem Tx.fd_init_Refusal (T : Tx w K mg) : ∃ fd, FunD K d_init_Refusal.name d_init_Refusal.qual d_init_Refusal.params d_init_Refusal.body d_init_Refusal.scope [] [] (He.fAd K d_init_Refusal.at_) fd := T.def_ 83 (d := d_init_Refusal) rfl
theorem Tx.fd_init_Value (T : Tx w K mg) : ∃ fd, FunD K d_init_Value.name d_init_Value.qual d_init_Value.params d_init_Value.body d_init_Value.scope [] [] (He.fAd K d_init_Value.at_) fd := T.def_ 84 (d := d_init_Value) rfl
theorem Tx.fd_init_Program (T : Tx w K mg) : ∃ fd, FunD K d_init_Program.name d_init_Program.qual d_init_Program.params d_init_Program.body d_init_Program.scope [] [] (He.fAd K d_init_Program.at_) fd := T.def_ 85 (d := d_init_Program) rfl
theorem Tx.fd_init_Walk (T : Tx w K mg) : ∃ fd, FunD K d_init_Walk.name d_init_Walk.qual d_init_Walk.params d_init_Walk.body d_init_Walk.scope [] [] (He.fAd K d_init_Walk.at_) fd := T.def_ 86 (d := d_init_Walk) rfl
theorem Tx.fd_init_Shelf (T : Tx w K mg) : ∃ fd, FunD K d_init_Shelf.name d_init_Shelf.qual d_init_Shelf.params d_init_Shelf.body d_init_Shelf.scope [] [] (He.fAd K d_init_Shelf.at_) fd := T.def_ 87 (d := d_init_Shelf) rfl
end
end CT

namespace CT
open PySem PySem.Spec PyProof.Rows L2
/-! ### the run, for each answer of the one row that the top asks of the world -/
theorem run_f (w : World) : HandSHeadRun.RunEqS R (PySem.W.view R.prog [124]) hkC obT 5400 nms (w.withFollow "special-get-raises" false) := by
  intro os
  kernel_rfl
theorem run_t (w : World) : HandSHeadRun.RunEqS R (PySem.W.view R.prog [124]) hkC obT 5400 nms (w.withFollow "special-get-raises" true) := by
  intro os
  kernel_rfl
theorem run_all (w : World) : HandSHeadRun.RunEqS R (PySem.W.view R.prog [124]) hkC obT 5400 nms w := PySem.W.byRow2 "special-get-raises" (P := fun w => HandSHeadRun.RunEqS R (PySem.W.view R.prog [124]) hkC obT 5400 nms w) run_f run_t w

end CT

namespace CT
open R7285d.Spec

/-! ### the least thread -/
abbrev Mach := R7285d.Spec.Machine
abbrev Thr := R7285d.Spec.Thread
abbrev Prog := R7285d.Spec.Program

theorem earlier_iff {a b : Time} : earlier a b = true ↔ a.1 < b.1 ∨ (a.1 = b.1 ∧ a.2 < b.2) := by
  simp [earlier]

/-- t runs and its time is below all others that run -/
def IsLeast (m : Mach) (t : Nat) : Prop := ∃ x, m.threads[t]? = some x ∧ x.mode.isRunning = true ∧ m.least t x = true

theorem least_iff {m : Mach} {t : Nat} {x : Thr} : m.least t x = true ↔ ∀ u y, m.threads[u]? = some y → y.mode.isRunning = true → u ≠ t → earlier (x.clock, t) (y.clock, u) = true := by
  unfold Machine.least
  rw [List.all_eq_true]
  constructor
  · intro h u y hu hr hne
    have hl : u < m.threads.length := (List.getElem?_eq_some_iff.mp hu).1
    have := h u (List.mem_range.mpr hl)
    rw [hu] at this
    simpa [hne, hr] using this
  · intro h u hu
    by_cases e : u = t
    · simp [e]
    · cases hq : m.threads[u]? with
      | none => simp
      | some y =>
        by_cases hr : y.mode.isRunning = true
        · simp [h u y hq hr e]
        · simp [hr]

theorem IsLeast.uniq {m : Mach} {t u : Nat} (h : IsLeast m t) (k : IsLeast m u) : t = u := by
  obtain ⟨x, hx, rx, lx⟩ := h
  obtain ⟨y, hy, ry, ly⟩ := k
  by_cases e : t = u
  · exact e
  · have a := earlier_iff.mp (least_iff.mp lx u y hy ry (fun z => e z.symm))
    have b := earlier_iff.mp (least_iff.mp ly t x hx rx e)
    simp only at a b
    omega

theorem first_some {m : Mach} {t : Nat} : m.first = some t ↔ IsLeast m t := by
  unfold Machine.first
  constructor
  · intro h
    have := List.find?_some h
    cases hq : m.threads[t]? with
    | none => rw [hq] at this; simp at this
    | some x =>
      rw [hq] at this
      simp at this
      exact ⟨x, hq, this.1, this.2⟩
  · intro h
    obtain ⟨x, hx, rx, lx⟩ := h
    have hl : t < m.threads.length := (List.getElem?_eq_some_iff.mp hx).1
    cases hf : List.find? (fun t => match m.threads[t]? with
      | some x => x.mode.isRunning && m.least t x
      | none => false) (List.range m.threads.length) with
    | none =>
      have := List.find?_eq_none.mp hf t (List.mem_range.mpr hl)
      rw [hx] at this
      simp [rx, lx] at this
    | some u =>
      have := List.find?_some hf
      cases hq : m.threads[u]? with
      | none => rw [hq] at this; simp at this
      | some y =>
        rw [hq] at this
        simp at this
        rw [IsLeast.uniq (m := m) ⟨y, hq, this.1, this.2⟩ ⟨x, hx, rx, lx⟩]

theorem first_none {m : Mach} : m.first = none ↔ ∀ t, ¬ IsLeast m t := by
  constructor
  · intro h t k
    rw [first_some.mpr k] at h
    cases h
  · intro h
    cases e : m.first with
    | none => rfl
    | some t => exact absurd (first_some.mp e) (h t)

/-- a least one among a list of running threads' times -/
theorem least_of_min {m : Mach} {t : Nat} {x : Thr} (hx : m.threads[t]? = some x) (rx : x.mode.isRunning = true)
    (hm : ∀ u y, m.threads[u]? = some y → y.mode.isRunning = true → ¬ (y.clock < x.clock ∨ (y.clock = x.clock ∧ u < t))) : m.first = some t := by
  refine first_some.mpr ⟨x, hx, rx, least_iff.mpr fun u y hu hr hne => earlier_iff.mpr ?_⟩
  have := hm u y hu hr
  simp only
  omega
theorem first_none_of {m : Mach} (h : ∀ (u : Nat) (y : Thr), m.threads[u]? = some y → y.mode.isRunning = true → False) : m.first = none :=
  first_none.mpr fun t ⟨x, hx, rx, _⟩ => h t x hx rx
end CT

namespace CT
open R7285d.Spec
abbrev Ins := R7285d.Spec.Instr
abbrev Lck := R7285d.Spec.Lock

/-! ### the program's steps, on the document's machine -/
def setT (m : Mach) (t : Nat) (x : Thr) : Mach := { m with threads := m.threads.set t x }
def bumped (x : Thr) : Thr := { x with count := x.count + 1 }
def ticked (w : Nat) (x : Thr) : Thr := { x with clock := x.clock + w }
def reckM (m : Mach) (t : Nat) (x : Thr) : Ins → Mach
  | .const r z => setT m t { x with regs := x.regs.set r z }
  | .add r a b => setT m t { x with regs := x.regs.set r (wrap (x.reg a + x.reg b)) }
  | .sub r a b => setT m t { x with regs := x.regs.set r (wrap (x.reg a - x.reg b)) }
  | .less r a b => setT m t { x with regs := x.regs.set r (if x.reg a < x.reg b then 1 else 0) }
  | .load r v => setT m t { x with regs := x.regs.set r (m.shared.getD v 0) }
  | .store v r => { m with shared := m.shared.set v (x.reg r) }
  | .print r => setT m t { x with out := x.out ++ [x.reg r] }
  | _ => m
def takeM (m : Mach) (t : Nat) (x : Thr) (l : Nat) : Mach :=
  if m.isOpen l (x.clock, t) then { setT m t x.taken with locks := m.locks.set l ⟨some t, none, (m.lockAt l).order ++ [t]⟩ } else m
def freeM (m : Mach) (t c l : Nat) : Mach := { m with locks := m.locks.set l ((m.lockAt l).release (c, t)) }
def waitM (m : Mach) (t : Nat) (x : Thr) (c l : Nat) : Mach :=
  if m.holds l t then { freeM (setT m t { x.advance with mode := .waiting, need := some l }) t x.clock l with queues := m.queues.set c (m.queues.getD c [] ++ [t]) } else setT m t x.advance
def woken (y : Thr) (c : Nat) : Thr := { y with mode := .running, clock := Nat.max y.clock (c + 1) }
def wakeM (m : Mach) (t : Nat) (x : Thr) (c : Nat) : Mach := match m.queues.getD c [] with
  | [] => setT m t x.advance
  | u :: r => match m.threads[u]? with
    | some y => { setT (setT m t x.advance) u (woken y x.clock) with queues := m.queues.set c r }
    | none => m
def startM (m : Mach) (t : Nat) (x : Thr) (u : Nat) : Mach := match m.threads[u]? with
  | some y => if y.mode.isIdle then setT (setT m t x.advance) u { y with mode := .running, clock := x.clock + 1 } else setT m t x.advance
  | none => m
def joinM (m : Mach) (t : Nat) (x : Thr) (u : Nat) : Mach := if m.isOver u (x.clock, t) then setT m t x.advance else m
def unlockM (m : Mach) (t : Nat) (x : Thr) (l : Nat) : Mach := if m.holds l t then freeM (setT m t x.advance) t x.clock l else setT m t x.advance
/-- the clock of thread t goes on -/
def tickM (m : Mach) (t w : Nat) : Mach := match m.threads[t]? with
  | some x => setT m t (ticked w x)
  | none => m
def advM (m : Mach) (t : Nat) : Mach := match m.threads[t]? with
  | some x => setT m t x.advance
  | none => m

/-! ### what is kept -/
structure Fit (p : Prog) : Prop where
  locks : 1 ≤ p.locks ∧ p.locks ≤ 4
  conds : p.conditions ≤ 4
  shared : p.shared.length ≤ 6
  threads : 1 ≤ p.threads.length ∧ p.threads.length ≤ 4
  guards : ∀ (v : Nat) (d : SharedD), p.shared[v]? = some d → d.guard < p.locks
  weights : ∀ (t : Nat) (d : ThreadD), p.threads[t]? = some d → 1 ≤ d.weight ∧ d.weight ≤ 9
  codes : ∀ (t : Nat) (d : ThreadD), p.threads[t]? = some d → d.code.length ≤ 30
  ins : ∀ (t : Nat) (d : ThreadD) (j : Nat) (i : Ins), p.threads[t]? = some d → d.code[j]? = some i → (match i with
    | .const r _ => r < 4
    | .add r a b => r < 4 ∧ a < 4 ∧ b < 4
    | .sub r a b => r < 4 ∧ a < 4 ∧ b < 4
    | .less r a b => r < 4 ∧ a < 4 ∧ b < 4
    | .jump r k => r < 4 ∧ k ≤ d.code.length
    | .load r v => r < 4 ∧ v < p.shared.length
    | .store v r => v < p.shared.length ∧ r < 4
    | .print r => r < 4
    | .lock l => l < p.locks
    | .unlock l => l < p.locks
    | .wait c l => c < p.conditions ∧ l < p.locks
    | .wake c => c < p.conditions
    | .start u => u < p.threads.length
    | .join u => u < p.threads.length)
/-- a thread of a program's machine -/
structure ThOk (p : Prog) (d : ThreadD) (n : Nat) (x : Thr) : Prop where
  regs : x.regs.length = 4
  pc : x.pc ≤ d.code.length
  need : ∀ l, x.need = some l → l < p.locks
  idle : x.mode = .idle → x.clock = 0
  out : x.out.length ≤ n
/-- a machine of the program, behind n events -/
structure Wf (p : Prog) (m : Mach) (n : Nat) : Prop where
  threads : m.threads.length = p.threads.length
  shared : m.shared.length = p.shared.length
  locks : m.locks.length = p.locks
  queues : m.queues.length = p.conditions
  th : ∀ (t : Nat) (d : ThreadD) (x : Thr), p.threads[t]? = some d → m.threads[t]? = some x → ThOk p d n x
  order : ∀ (l : Nat) (k : Lck), m.locks[l]? = some k → k.order.length ≤ n
  qlen : ∀ (c : Nat) (q : List Nat), m.queues[c]? = some q → q.length ≤ n
  wait : ∀ (c : Nat) (q : List Nat) (u : Nat), m.queues[c]? = some q → u ∈ q → ∃ y, m.threads[u]? = some y ∧ y.mode = .waiting
  once : m.queues.flatten.Nodup
  total : (m.threads.map (·.count)).sum = n
end CT

namespace CT
open R7285d.Spec

theorem setT_get {m : Mach} {t : Nat} {x0 x : Thr} (h : m.threads[t]? = some x0) : (setT m t x).threads[t]? = some x := by
  have hl : t < m.threads.length := (List.getElem?_eq_some_iff.mp h).1
  simp [setT, hl]
theorem setT_ne {m : Mach} {t u : Nat} {x : Thr} (h : u ≠ t) : (setT m t x).threads[u]? = m.threads[u]? := by
  simp [setT, Ne.symm h]
theorem setT_setT {m : Mach} {t : Nat} {x y : Thr} : setT (setT m t x) t y = setT m t y := by simp [setT]
theorem setT_comm {m : Mach} {t u : Nat} {x y : Thr} (h : u ≠ t) : setT (setT m t x) u y = setT (setT m u y) t x := by
  simp only [setT]
  rw [List.set_comm _ _ (Ne.symm h)]
theorem advM_set {m : Mach} {t : Nat} {x0 x : Thr} (h : m.threads[t]? = some x0) : advM (setT m t x) t = setT m t x.advance := by
  unfold advM
  rw [setT_get h]
  exact setT_setT
theorem tickM_set {m : Mach} {t w : Nat} {x0 x : Thr} (h : m.threads[t]? = some x0) : tickM (setT m t x) t w = setT m t (ticked w x) := by
  unfold tickM
  rw [setT_get h]
  exact setT_setT
theorem advM_at {m : Mach} {t : Nat} {x : Thr} (h : m.threads[t]? = some x) : advM m t = setT m t x.advance := by
  unfold advM
  rw [h]
theorem tickM_at {m : Mach} {t w : Nat} {x : Thr} (h : m.threads[t]? = some x) : tickM m t w = setT m t (ticked w x) := by
  unfold tickM
  rw [h]

/-- what an event of thread t gives -/
def evOf (p : Prog) (m : Mach) (t : Nat) (x : Thr) : Mach :=
  m.apply t (effect m t x (p.weight t) (fun l => m.isOpen l (x.clock, t)) (fun u => m.isOver u (x.clock, t)) (p.act t x))
theorem go_at {p : Prog} {m : Mach} {t : Nat} {x : Thr} (hx : m.threads[t]? = some x) :
    p.go m t = if x.mode.isRunning && (!((p.act t x).sync) || m.least t x) then some (evOf p m t x) else none := by
  unfold Program.go
  rw [hx]
  rfl
theorem go_some {p : Prog} {m m' : Mach} {t : Nat} (h : p.go m t = some m') : ∃ x, m.threads[t]? = some x ∧ x.mode.isRunning = true ∧ ((p.act t x).sync = true → m.least t x = true) ∧ m' = evOf p m t x := by
  cases hx : m.threads[t]? with
  | none => simp [Program.go, hx] at h
  | some x =>
    rw [go_at hx] at h
    by_cases c : (x.mode.isRunning && (!((p.act t x).sync) || m.least t x)) = true
    · rw [if_pos c] at h
      refine ⟨x, rfl, ?_, ?_, (Option.some.inj h).symm⟩
      · simp at c
        exact c.1
      · intro s
        simp [s] at c
        exact c.2
    · rw [if_neg c] at h
      cases h
theorem setS_none {α : Type} (l : List α) : setSome l none = l := rfl
theorem setS_some {α : Type} (l : List α) (i : Nat) (a : α) : setSome l (some (i, a)) = l.set i a := rfl
theorem apply_just {m : Mach} {t : Nat} {y : Thr} : m.apply t (just y) = setT m t y := rfl

section
variable {p : Prog} {m : Mach} {t : Nat} {x : Thr}
theorem ev_stop (hx : m.threads[t]? = some x) (h : p.act t x = .stop) : evOf p m t x = setT (setT m t (bumped x)) t { bumped x with mode := .ended } := by
  unfold evOf
  rw [h, setT_setT]
  rfl
theorem ev_jump (hx : m.threads[t]? = some x) {r k : Nat} (h : p.act t x = .own (if x.reg r = 0 then x.advance else { x with pc := k })) :
    evOf p m t x = tickM (setT (setT m t (bumped x)) t { bumped x with pc := if x.reg r ≠ 0 then k else x.pc + 1 }) t (p.weight t) := by
  unfold evOf
  rw [h, setT_setT, tickM_set hx]
  show setT m t _ = _
  congr 1
  by_cases c : x.reg r = 0
  · simp [c, Thread.tick, Thread.advance, ticked, bumped]; rfl
  · simp [c, Thread.tick, Thread.advance, ticked, bumped]; rfl
/-- the instructions that reckon do -/
def actOf (x : Thr) : Ins → Act
  | .const r z => .own (x.got r z)
  | .add r a b => .own (x.got r (wrap (x.reg a + x.reg b)))
  | .sub r a b => .own (x.got r (wrap (x.reg a - x.reg b)))
  | .less r a b => .own (x.got r (if x.reg a < x.reg b then 1 else 0))
  | .load r v => .load r v
  | .store v r => .store v (x.reg r)
  | .print r => .own { x.advance with out := x.out ++ [x.reg r] }
  | _ => .stop
def isReck : Ins → Bool
  | .const _ _ => true
  | .add _ _ _ => true
  | .sub _ _ _ => true
  | .less _ _ _ => true
  | .load _ _ => true
  | .store _ _ => true
  | .print _ => true
  | _ => false
theorem ev_reck (hx : m.threads[t]? = some x) {i : Ins} (hi : isReck i = true) (h : p.act t x = actOf x i) :
    evOf p m t x = tickM (advM (reckM (setT m t (bumped x)) t (bumped x) i) t) t (p.weight t) := by
  unfold evOf
  rw [h]
  cases i with
  | const r z =>
    show _ = tickM (advM (setT (setT m t (bumped x)) t _) t) t _
    rw [setT_setT, advM_set hx, tickM_set hx]
    rfl
  | add r a b =>
    show _ = tickM (advM (setT (setT m t (bumped x)) t _) t) t _
    rw [setT_setT, advM_set hx, tickM_set hx]
    rfl
  | sub r a b =>
    show _ = tickM (advM (setT (setT m t (bumped x)) t _) t) t _
    rw [setT_setT, advM_set hx, tickM_set hx]
    rfl
  | less r a b =>
    show _ = tickM (advM (setT (setT m t (bumped x)) t _) t) t _
    rw [setT_setT, advM_set hx, tickM_set hx]
    rfl
  | load r v =>
    show _ = tickM (advM (setT (setT m t (bumped x)) t _) t) t _
    rw [setT_setT, advM_set hx, tickM_set hx]
    rfl
  | print r =>
    show _ = tickM (advM (setT (setT m t (bumped x)) t _) t) t _
    rw [setT_setT, advM_set hx, tickM_set hx]
    rfl
  | store v r =>
    have hl : t < m.threads.length := (List.getElem?_eq_some_iff.mp hx).1
    simp [reckM, actOf, effect, Machine.apply, setSome, just, tickM, advM, setT, hl, bumped, ticked, Thread.tick, Thread.advance, Thread.reg]
  | _ => cases hi
theorem holds_set (l : Nat) (u : Nat) (y : Thr) : (setT m t y).holds l u = m.holds l u := rfl
theorem isOpen_set (l : Nat) (a : Time) (y : Thr) : (setT m t y).isOpen l a = m.isOpen l a := rfl
theorem ev_lock (hx : m.threads[t]? = some x) {l : Nat} (h : p.act t x = .lock l) : evOf p m t x = tickM (takeM (setT m t (bumped x)) t (bumped x) l) t (p.weight t) := by
  have hl : t < m.threads.length := (List.getElem?_eq_some_iff.mp hx).1
  unfold evOf
  rw [h]
  unfold takeM
  by_cases c : m.isOpen l (x.clock, t) = true
  · have c' : (setT m t (bumped x)).isOpen l ((bumped x).clock, t) = true := c
    rw [if_pos c']
    cases hn : x.need with
    | none => simp [effect, c, Machine.apply, setSome, just, tickM, setT, hl, bumped, ticked, Thread.tick, Thread.advance, Thread.taken, hn, Machine.lockAt]
    | some n => simp [effect, c, Machine.apply, setSome, just, tickM, setT, hl, bumped, ticked, Thread.tick, Thread.advance, Thread.taken, hn, Machine.lockAt]
  · have c' : ¬ (setT m t (bumped x)).isOpen l ((bumped x).clock, t) = true := c
    rw [if_neg c', tickM_set hx]
    simp [effect, c, apply_just, Thread.tick, ticked, bumped]
theorem ev_unlock (hx : m.threads[t]? = some x) {l : Nat} (h : p.act t x = .unlock l) : evOf p m t x = tickM (unlockM (setT m t (bumped x)) t (bumped x) l) t (p.weight t) := by
  have hl : t < m.threads.length := (List.getElem?_eq_some_iff.mp hx).1
  unfold evOf
  rw [h]
  unfold unlockM
  by_cases c : m.holds l t = true
  · have c' : (setT m t (bumped x)).holds l t = true := c
    rw [if_pos c']
    simp [effect, c, Machine.apply, setSome, just, tickM, setT, hl, bumped, ticked, Thread.tick, Thread.advance, freeM, Machine.lockAt]
  · have c' : ¬ (setT m t (bumped x)).holds l t = true := c
    rw [if_neg c', setT_setT, tickM_set hx]
    simp [effect, c, apply_just, Thread.tick, ticked, bumped, Thread.advance]
theorem ev_wait (hx : m.threads[t]? = some x) {c l : Nat} (h : p.act t x = .wait c l) : evOf p m t x = tickM (waitM (setT m t (bumped x)) t (bumped x) c l) t (p.weight t) := by
  have hl : t < m.threads.length := (List.getElem?_eq_some_iff.mp hx).1
  unfold evOf
  rw [h]
  unfold waitM
  by_cases k : m.holds l t = true
  · have k' : (setT m t (bumped x)).holds l t = true := k
    rw [if_pos k']
    simp [effect, k, Machine.apply, setSome, just, tickM, setT, hl, bumped, ticked, Thread.tick, Thread.advance, freeM, Machine.lockAt]
  · have k' : ¬ (setT m t (bumped x)).holds l t = true := k
    rw [if_neg k', setT_setT, tickM_set hx]
    simp [effect, k, apply_just, Thread.tick, ticked, bumped, Thread.advance]
theorem ev_wake (hx : m.threads[t]? = some x) (hr : x.mode = .running) {c : Nat} (hw : ∀ u ∈ m.queues.getD c [], ∃ y, m.threads[u]? = some y ∧ y.mode = .waiting) (h : p.act t x = .wake c) :
    evOf p m t x = tickM (wakeM (setT m t (bumped x)) t (bumped x) c) t (p.weight t) := by
  have hl : t < m.threads.length := (List.getElem?_eq_some_iff.mp hx).1
  unfold evOf
  rw [h]
  unfold wakeM
  show m.apply t (effect m t x _ _ _ (.wake c)) = tickM (match m.queues.getD c [] with | [] => _ | u :: r => _) t _
  simp only [effect]
  cases hq : m.queues.getD c [] with
  | nil =>
    simp only
    rw [setT_setT, tickM_set hx]
    simp [apply_just, Thread.tick, ticked, bumped, Thread.advance]
  | cons u r =>
    simp only
    obtain ⟨y, hy, ym⟩ := hw u (by rw [hq]; exact List.mem_cons_self ..)
    have hne : u ≠ t := fun e => by
      subst e
      rw [hx] at hy
      cases hy
      rw [hr] at ym
      cases ym
    have hul : u < m.threads.length := (List.getElem?_eq_some_iff.mp hy).1
    rw [setT_ne hne, hy]
    simp only
    have e1 : y.mode.isWaiting = true := by rw [ym]; rfl
    rw [if_pos e1, setT_setT, setT_comm hne]
    have e2 : (setT m u (woken y (bumped x).clock)).threads[t]? = some x := by rw [setT_ne (Ne.symm hne)]; exact hx
    simp [tickM, setT, hl, Machine.apply, setSome, just, Thread.tick, ticked, bumped, Thread.advance, woken]
    rw [List.set_comm _ _ (Ne.symm hne)]
theorem ev_start (hx : m.threads[t]? = some x) (hr : x.mode = .running) {u : Nat} (hu : ∃ y, m.threads[u]? = some y ∧ (y.mode = .idle → y.clock = 0)) (h : p.act t x = .start u) :
    evOf p m t x = tickM (startM (setT m t (bumped x)) t (bumped x) u) t (p.weight t) := by
  have hl : t < m.threads.length := (List.getElem?_eq_some_iff.mp hx).1
  obtain ⟨y, hy, hc⟩ := hu
  have hul : u < m.threads.length := (List.getElem?_eq_some_iff.mp hy).1
  unfold evOf
  rw [h]
  unfold startM
  simp only [effect, hy]
  by_cases e : u = t
  · subst e
    rw [hx] at hy
    cases hy
    rw [setT_get hx]
    have e1 : x.mode.isIdle = false := by rw [hr]; rfl
    have e2 : (bumped x).mode.isIdle = false := e1
    simp only [e1, e2, Bool.false_eq_true, if_false]
    rw [setT_setT, tickM_set hx]
    simp [apply_just, Thread.tick, ticked, bumped, Thread.advance]
  · rw [setT_ne e, hy]
    simp only
    by_cases i : y.mode.isIdle = true
    · have yi : y.mode = .idle := by cases hm : y.mode <;> rw [hm] at i <;> simp_all [Mode.isIdle]
      rw [if_pos i, if_pos i, setT_setT, setT_comm e]
      have e2 : (setT m u { y with mode := .running, clock := (bumped x).clock + 1 }).threads[t]? = some x := by rw [setT_ne (Ne.symm e)]; exact hx
      rw [tickM_set e2, ← setT_comm e]
      simp [Machine.apply, setSome, just, setT, Thread.tick, ticked, bumped, Thread.advance, hc yi]
    · rw [if_neg i, if_neg i, setT_setT, tickM_set hx]
      simp [apply_just, Thread.tick, ticked, bumped, Thread.advance]
theorem ev_join (hx : m.threads[t]? = some x) (hr : x.mode = .running) {u : Nat} (h : p.act t x = .join u) : evOf p m t x = tickM (joinM (setT m t (bumped x)) t (bumped x) u) t (p.weight t) := by
  have hl : t < m.threads.length := (List.getElem?_eq_some_iff.mp hx).1
  unfold evOf
  rw [h]
  unfold joinM
  have e : (setT m t (bumped x)).isOver u ((bumped x).clock, t) = m.isOver u (x.clock, t) := by
    unfold Machine.isOver
    by_cases e : u = t
    · subst e
      rw [setT_get hx, hx]
      rfl
    · rw [setT_ne e]
      rfl
  rw [e]
  simp only [effect]
  by_cases c : m.isOver u (x.clock, t) = true
  · rw [if_pos c, if_pos c, setT_setT, tickM_set hx]
    rfl
  · rw [if_neg c, if_neg c, tickM_set hx]
    rfl
end
end CT

namespace CT
open R7285d.Spec

theorem sum_set_succ : ∀ (l : List Thr) (t : Nat) (x y : Thr), l[t]? = some x → y.count = x.count + 1 → ((l.set t y).map (·.count)).sum = (l.map (·.count)).sum + 1
  | [], _, _, _, h, _ => by simp at h
  | a :: l, 0, x, y, h, e => by
    simp at h
    subst h
    simp [e]
    omega
  | a :: l, t + 1, x, y, h, e => by
    have := sum_set_succ l t x y (by simpa using h) e
    simp only [List.set_cons_succ, List.map_cons, List.sum_cons, this]
    omega
theorem sum_set_same : ∀ (l : List Thr) (t : Nat) (x y : Thr), l[t]? = some x → y.count = x.count → ((l.set t y).map (·.count)).sum = (l.map (·.count)).sum
  | [], _, _, _, h, _ => by simp at h
  | a :: l, 0, x, y, h, e => by
    simp at h
    subst h
    simp [e]
  | a :: l, t + 1, x, y, h, e => by
    have := sum_set_same l t x y (by simpa using h) e
    simp only [List.set_cons_succ, List.map_cons, List.sum_cons, this]
theorem nodup_flat_set_app : ∀ (qs : List (List Nat)) (c : Nat) (q : List Nat) (t : Nat), qs[c]? = some q → qs.flatten.Nodup → t ∉ qs.flatten → (qs.set c (q ++ [t])).flatten.Nodup
  | [], _, _, _, h, _, _ => by simp at h
  | a :: r, 0, q, t, h, nd, nt => by
    simp at h
    subst h
    simp only [List.set_cons_zero, List.flatten_cons, List.append_assoc]
    simp only [List.flatten_cons] at nd nt
    rw [List.nodup_append] at nd ⊢
    refine ⟨nd.1, ?_, ?_⟩
    · simp only [List.cons_append, List.nil_append, List.nodup_cons]
      exact ⟨fun h => nt (List.mem_append_right _ h), nd.2.1⟩
    · intro b hb c hc
      simp only [List.cons_append, List.nil_append, List.mem_cons] at hc
      rcases hc with hc | hc
      · intro e
        subst e
        subst hc
        exact nt (List.mem_append_left _ hb)
      · exact nd.2.2 b hb c hc
  | a :: r, c + 1, q, t, h, nd, nt => by
    simp only [List.flatten_cons] at nd nt
    rw [List.nodup_append] at nd
    have ih := nodup_flat_set_app r c q t (by simpa using h) nd.2.1 (fun z => nt (List.mem_append_right _ z))
    simp only [List.set_cons_succ, List.flatten_cons]
    rw [List.nodup_append]
    refine ⟨nd.1, ih, ?_⟩
    intro b hb d hd
    have hq : q ∈ r := List.mem_of_getElem? (by simpa using h)
    obtain ⟨s, hs, hd⟩ := List.mem_flatten.mp hd
    rcases List.mem_or_eq_of_mem_set hs with hs | hs
    · exact nd.2.2 b hb d (List.mem_flatten.mpr ⟨s, hs, hd⟩)
    · subst hs
      rcases List.mem_append.mp hd with hd | hd
      · exact nd.2.2 b hb d (List.mem_flatten.mpr ⟨q, hq, hd⟩)
      · simp at hd
        subst hd
        intro e
        subst e
        exact nt (List.mem_append_left _ hb)
theorem nodup_flat_set_tail : ∀ (qs : List (List Nat)) (c : Nat) (u : Nat) (r : List Nat), qs[c]? = some (u :: r) → qs.flatten.Nodup → (qs.set c r).flatten.Nodup ∧ u ∉ (qs.set c r).flatten
  | [], _, _, _, h, _ => by simp at h
  | a :: l, 0, u, r, h, nd => by
    simp at h
    subst h
    simp only [List.set_cons_zero, List.flatten_cons, List.cons_append, List.nodup_cons] at nd ⊢
    exact ⟨nd.2, nd.1⟩
  | a :: l, c + 1, u, r, h, nd => by
    simp only [List.flatten_cons] at nd
    rw [List.nodup_append] at nd
    have hc : l[c]? = some (u :: r) := by simpa using h
    obtain ⟨i1, i2⟩ := nodup_flat_set_tail l c u r hc nd.2.1
    have hm : (u :: r) ∈ l := List.mem_of_getElem? hc
    simp only [List.set_cons_succ, List.flatten_cons]
    refine ⟨?_, ?_⟩
    · rw [List.nodup_append]
      refine ⟨nd.1, i1, fun b hb d hd => ?_⟩
      obtain ⟨s, hs, hd2⟩ := List.mem_flatten.mp hd
      rcases List.mem_or_eq_of_mem_set hs with hs | hs
      · exact nd.2.2 b hb d (List.mem_flatten.mpr ⟨s, hs, hd2⟩)
      · rw [hs] at hd2
        exact nd.2.2 b hb d (List.mem_flatten.mpr ⟨_, hm, List.mem_cons_of_mem _ hd2⟩)
    · rw [List.mem_append]
      rintro (z | z)
      · exact nd.2.2 u z u (List.mem_flatten.mpr ⟨_, hm, List.mem_cons_self ..⟩) rfl
      · exact i2 z

/-- one thread has gone on by one event, nothing else has changed -/
theorem Wf.self {p : Prog} {m : Mach} {n t : Nat} {x y : Thr} {d : ThreadD} (w : Wf p m n) (hd : p.threads[t]? = some d) (hx : m.threads[t]? = some x) (hr : x.mode = .running) (ok : ThOk p d (n + 1) y) (hc : y.count = x.count + 1) : Wf p (setT m t y) (n + 1) where
  threads := by simp [setT, w.threads]
  shared := w.shared
  locks := w.locks
  queues := w.queues
  th := fun u d' z hd' hz => by
    by_cases e : u = t
    · subst e
      rw [setT_get hx] at hz
      cases hz
      rw [hd] at hd'
      cases hd'
      exact ok
    · rw [setT_ne e] at hz
      have := w.th u d' z hd' hz
      exact ⟨this.regs, this.pc, this.need, this.idle, Nat.le_succ_of_le this.out⟩
  order := fun l k h => Nat.le_succ_of_le (w.order l k h)
  qlen := fun c q h => Nat.le_succ_of_le (w.qlen c q h)
  wait := fun c q u h hu => by
    obtain ⟨z, hz, zm⟩ := w.wait c q u h hu
    by_cases e : u = t
    · subst e
      rw [hx] at hz
      cases hz
      rw [hr] at zm
      cases zm
    · exact ⟨z, by rw [setT_ne e]; exact hz, zm⟩
  once := w.once
  total := by
    show ((m.threads.set t y).map (·.count)).sum = n + 1
    rw [sum_set_succ _ _ _ _ hx hc, w.total]
/-- a shared variable, a lock change -/
theorem Wf.store {p : Prog} {m : Mach} {n v : Nat} {z : Int} (w : Wf p m n) : Wf p { m with shared := m.shared.set v z } n :=
  ⟨w.threads, by simp [w.shared], w.locks, w.queues, w.th, w.order, w.qlen, w.wait, w.once, w.total⟩
theorem Wf.lock {p : Prog} {m : Mach} {n l : Nat} {k : Lck} (w : Wf p m n) (h : k.order.length ≤ n) : Wf p { m with locks := m.locks.set l k } n :=
  ⟨w.threads, w.shared, by simp [w.locks], w.queues, w.th, fun i q hq => by
    rw [List.getElem?_set] at hq
    split at hq
    · split at hq
      · cases hq; exact h
      · cases hq
    · exact w.order i q hq, w.qlen, w.wait, w.once, w.total⟩
theorem lockAt_len {p : Prog} {m : Mach} {n l : Nat} (w : Wf p m n) : (m.lockAt l).order.length ≤ n := by
  unfold Machine.lockAt
  rw [List.getD_eq_getElem?_getD]
  cases h : m.locks[l]? with
  | none => simp
  | some k => exact w.order l k h
end CT

namespace CT
open R7285d.Spec

theorem Wf.enq {p : Prog} {m : Mach} {n c t : Nat} {q : List Nat} {y : Thr} (w : Wf p m n) (hq : m.queues[c]? = some q) (hy : m.threads[t]? = some y) (ym : y.mode = .waiting) (nt : t ∉ m.queues.flatten) (hl : q.length + 1 ≤ n) :
    Wf p { m with queues := m.queues.set c (q ++ [t]) } n where
  threads := w.threads
  shared := w.shared
  locks := w.locks
  queues := by simp [w.queues]
  th := w.th
  order := w.order
  qlen := fun i s hs => by
    rw [List.getElem?_set] at hs
    split at hs
    · split at hs
      · cases hs; simpa using hl
      · cases hs
    · exact w.qlen i s hs
  wait := fun i s u hs hu => by
    rw [List.getElem?_set] at hs
    split at hs
    · split at hs
      · cases hs
        rcases List.mem_append.mp hu with hu | hu
        · exact w.wait c q u hq hu
        · simp at hu
          subst hu
          exact ⟨y, hy, ym⟩
      · cases hs
    · exact w.wait i s u hs hu
  once := nodup_flat_set_app _ _ _ _ hq w.once nt
  total := w.total
theorem Wf.deq {p : Prog} {m : Mach} {n c u : Nat} {r : List Nat} (w : Wf p m n) (hq : m.queues[c]? = some (u :: r)) : Wf p { m with queues := m.queues.set c r } n ∧ u ∉ (m.queues.set c r).flatten := by
  obtain ⟨i1, i2⟩ := nodup_flat_set_tail _ _ _ _ hq w.once
  refine ⟨⟨w.threads, w.shared, w.locks, by simp [w.queues], w.th, w.order, fun i s hs => ?_, fun i s v hs hv => ?_, i1, w.total⟩, i2⟩
  · rw [List.getElem?_set] at hs
    split at hs
    · split at hs
      · cases hs
        have := w.qlen c _ hq
        simp at this
        omega
      · cases hs
    · exact w.qlen i s hs
  · rw [List.getElem?_set] at hs
    split at hs
    · split at hs
      · cases hs
        exact w.wait c _ v hq (List.mem_cons_of_mem _ hv)
      · cases hs
    · exact w.wait i s v hs hv
theorem not_queued {p : Prog} {m : Mach} {n t : Nat} {x : Thr} (w : Wf p m n) (hx : m.threads[t]? = some x) (h : x.mode ≠ .waiting) : t ∉ m.queues.flatten := fun z => by
  obtain ⟨q, hq, hm⟩ := List.mem_flatten.mp z
  obtain ⟨c, hc⟩ := List.getElem?_of_mem hq
  obtain ⟨y, hy, ym⟩ := w.wait c q t hc hm
  rw [hx] at hy
  cases hy
  exact h ym
theorem Wf.other {p : Prog} {m : Mach} {n u : Nat} {y z : Thr} {d : ThreadD} (w : Wf p m n) (hd : p.threads[u]? = some d) (hy : m.threads[u]? = some y) (nu : u ∉ m.queues.flatten) (ok : ThOk p d n z) (hc : z.count = y.count) : Wf p (setT m u z) n where
  threads := by simp [setT, w.threads]
  shared := w.shared
  locks := w.locks
  queues := w.queues
  th := fun v d' x hd' hx => by
    by_cases e : v = u
    · subst e
      rw [setT_get hy] at hx
      cases hx
      rw [hd] at hd'
      cases hd'
      exact ok
    · rw [setT_ne e] at hx
      exact w.th v d' x hd' hx
  order := w.order
  qlen := w.qlen
  wait := fun c q v hq hv => by
    obtain ⟨x, hx, xm⟩ := w.wait c q v hq hv
    by_cases e : v = u
    · subst e
      exact absurd (List.mem_flatten.mpr ⟨q, List.mem_of_getElem? hq, hv⟩) nu
    · exact ⟨x, by rw [setT_ne e]; exact hx, xm⟩
  once := w.once
  total := by
    show ((m.threads.set u z).map (·.count)).sum = n
    rw [sum_set_same _ _ _ _ hy hc, w.total]
theorem run_of {x : Thr} (h : x.mode.isRunning = true) : x.mode = .running := by
  cases hm : x.mode <;> rw [hm] at h <;> simp_all [Mode.isRunning]
theorem getD_some {α : Type} {l : List α} {i : Nat} {a d : α} (h : l[i]? = some a) : l.getD i d = a := by
  rw [List.getD_eq_getElem?_getD, h]
  rfl
theorem dOf {p : Prog} {m : Mach} {n t : Nat} {x : Thr} (w : Wf p m n) (hx : m.threads[t]? = some x) : ∃ d, p.threads[t]? = some d ∧ p.code t = d.code ∧ p.weight t = d.weight := by
  have hl : t < p.threads.length := by rw [← w.threads]; exact (List.getElem?_eq_some_iff.mp hx).1
  refine ⟨p.threads[t], by simp [hl], ?_, ?_⟩
  · simp [Program.code, hl]
  · simp [Program.weight, hl]
theorem xOf {p : Prog} {m : Mach} {n t : Nat} {d : ThreadD} (w : Wf p m n) (hd : p.threads[t]? = some d) : ∃ x, m.threads[t]? = some x := by
  have hl : t < m.threads.length := by rw [w.threads]; exact (List.getElem?_eq_some_iff.mp hd).1
  exact ⟨m.threads[t], by simp [hl]⟩

theorem Wf.go {p : Prog} {m m' : Mach} {n t : Nat} (F : Fit p) (w : Wf p m n) (h : p.go m t = some m') : Wf p m' (n + 1) := by
  obtain ⟨x, hx, run, _, rfl⟩ := go_some h
  have xr := run_of run
  obtain ⟨d, hd, ec, ew⟩ := dOf w hx
  have ok := w.th t d x hd hx
  -- a thread's new state: what has to be shown of it
  have self : ∀ y : Thr, y.count = x.count + 1 → y.regs.length = 4 → y.pc ≤ d.code.length → (∀ l, y.need = some l → l < p.locks) → (y.mode = .idle → y.clock = 0) → y.out.length ≤ n + 1 → Wf p (setT m t y) (n + 1) :=
    fun y hc h1 h2 h3 h4 h5 => w.self hd hx xr ⟨h1, h2, h3, h4, h5⟩ hc
  have notIdle : x.mode = .idle → False := fun e => by rw [xr] at e; cases e
  have outOk := Nat.le_succ_of_le ok.out
  unfold evOf
  cases hn : x.need with
  | some l =>
    have ea : p.act t x = .lock l := by simp [Program.act, Thread.next, hn]
    rw [ea]
    simp only [effect]
    split
    · have w1 := self (x.taken.tick (p.weight t)) (by simp [Thread.taken, hn, Thread.tick, Thread.advance]) (by simp [Thread.taken, hn, Thread.tick, ok.regs]) (by simp [Thread.taken, hn, Thread.tick, ok.pc]) (by simp [Thread.taken, hn, Thread.tick])
        (fun e => (notIdle (by simpa [Thread.taken, hn, Thread.tick] using e)).elim) (by simp [Thread.taken, hn, Thread.tick]; exact outOk)
      exact w1.lock (l := l) (k := ⟨some t, none, (m.lockAt l).order ++ [t]⟩) (by simpa using lockAt_len w)
    · exact self (x.tick (p.weight t)) rfl ok.regs ok.pc ok.need (fun e => (notIdle e).elim) outOk
  | none =>
    cases hi : d.code[x.pc]? with
    | none =>
      have ea : p.act t x = .stop := by simp [Program.act, Thread.next, hn, ec, hi]
      rw [ea]
      exact self { x with mode := .ended, count := x.count + 1 } rfl ok.regs ok.pc ok.need (fun e => by cases e) outOk
    | some i =>
      have hlt : x.pc < d.code.length := (List.getElem?_eq_some_iff.mp hi).1
      have fi := F.ins t d x.pc i hd hi
      have adv : ∀ y : Thr, y = x.advance → Wf p (setT m t (y.tick (p.weight t))) (n + 1) := fun y e => by
        subst e
        exact self _ rfl ok.regs hlt ok.need (fun e => (notIdle e).elim) outOk
      have got : ∀ r z, Wf p (setT m t ((x.got r z).tick (p.weight t))) (n + 1) := fun r z =>
        self _ rfl (by simp [Thread.got, Thread.tick, ok.regs]) hlt ok.need (fun e => (notIdle e).elim) outOk
      cases i with
      | const r z =>
        have ea : p.act t x = .own (x.got r z) := by simp [Program.act, Thread.next, hn, ec, hi]
        rw [ea]
        exact got r z
      | add r a b =>
        have ea : p.act t x = .own (x.got r (wrap (x.reg a + x.reg b))) := by simp [Program.act, Thread.next, hn, ec, hi]
        rw [ea]
        exact got r _
      | sub r a b =>
        have ea : p.act t x = .own (x.got r (wrap (x.reg a - x.reg b))) := by simp [Program.act, Thread.next, hn, ec, hi]
        rw [ea]
        exact got r _
      | less r a b =>
        have ea : p.act t x = .own (x.got r (if x.reg a < x.reg b then 1 else 0)) := by simp [Program.act, Thread.next, hn, ec, hi]
        rw [ea]
        exact got r _
      | jump r k =>
        have ea : p.act t x = .own (if x.reg r = 0 then x.advance else { x with pc := k }) := by simp [Program.act, Thread.next, hn, ec, hi]
        rw [ea]
        by_cases c : x.reg r = 0
        · rw [if_pos c]
          exact adv _ rfl
        · rw [if_neg c]
          exact self _ rfl ok.regs fi.2 ok.need (fun e => (notIdle e).elim) outOk
      | load r v =>
        have ea : p.act t x = .load r v := by simp [Program.act, Thread.next, hn, ec, hi]
        rw [ea]
        exact got r _
      | store v r =>
        have ea : p.act t x = .store v (x.reg r) := by simp [Program.act, Thread.next, hn, ec, hi]
        rw [ea]
        exact (adv _ rfl).store
      | print r =>
        have ea : p.act t x = .own { x.advance with out := x.out ++ [x.reg r] } := by simp [Program.act, Thread.next, hn, ec, hi]
        rw [ea]
        exact self (Thread.tick { x.advance with out := x.out ++ [x.reg r] } (p.weight t)) rfl ok.regs hlt ok.need (fun e => (notIdle e).elim) (by show (x.out ++ [x.reg r]).length ≤ n + 1; simpa using ok.out)
      | lock l =>
        have ea : p.act t x = .lock l := by simp [Program.act, Thread.next, hn, ec, hi]
        rw [ea]
        simp only [effect]
        split
        · have w1 := self (x.taken.tick (p.weight t)) (by simp [Thread.taken, hn, Thread.tick, Thread.advance]) (by simp [Thread.taken, hn, Thread.tick, Thread.advance, ok.regs]) (by simp [Thread.taken, hn, Thread.tick, Thread.advance]; exact hlt) (by simp [Thread.taken, hn, Thread.tick, Thread.advance])
            (fun e => (notIdle (by simpa [Thread.taken, hn, Thread.tick, Thread.advance] using e)).elim) (by simp [Thread.taken, hn, Thread.tick, Thread.advance]; exact outOk)
          exact w1.lock (l := l) (k := ⟨some t, none, (m.lockAt l).order ++ [t]⟩) (by simpa using lockAt_len w)
        · exact self (x.tick (p.weight t)) rfl ok.regs ok.pc ok.need (fun e => (notIdle e).elim) outOk
      | unlock l =>
        have ea : p.act t x = .unlock l := by simp [Program.act, Thread.next, hn, ec, hi]
        rw [ea]
        simp only [effect]
        split
        · exact (adv _ rfl).lock (l := l) (k := (m.lockAt l).release (x.clock, t)) (Nat.le_succ_of_le (lockAt_len w))
        · exact adv _ rfl
      | wait c l =>
        have ea : p.act t x = .wait c l := by simp [Program.act, Thread.next, hn, ec, hi]
        rw [ea]
        simp only [effect]
        split
        · have nq := not_queued w hx (by rw [xr]; intro z; cases z)
          have w1 := self (Thread.tick { x.advance with mode := .waiting, need := some l } (p.weight t)) rfl ok.regs hlt (fun j e => (by cases e; exact fi.2)) (fun e => (by cases e)) outOk
          have w2 := w1.lock (l := l) (k := (m.lockAt l).release (x.clock, t)) (Nat.le_succ_of_le (lockAt_len w))
          have hc : c < m.queues.length := by rw [w.queues]; exact fi.1
          have hq : m.queues[c]? = some m.queues[c] := by simp [hc]
          rw [getD_some hq]
          exact w2.enq (c := c) (t := t) (q := m.queues[c]) hq (setT_get hx) rfl nq (Nat.succ_le_succ (w.qlen c _ hq))
        · exact adv _ rfl
      | wake c =>
        have ea : p.act t x = .wake c := by simp [Program.act, Thread.next, hn, ec, hi]
        rw [ea]
        simp only [effect]
        have hc : c < m.queues.length := by rw [w.queues]; exact fi
        have hq : m.queues[c]? = some m.queues[c] := by simp [hc]
        rw [getD_some hq]
        cases hqq : m.queues[c] with
        | nil => exact adv _ rfl
        | cons u r =>
          simp only
          rw [hqq] at hq
          obtain ⟨y, hy, ym⟩ := w.wait c _ u hq (List.mem_cons_self ..)
          rw [hy]
          simp only
          have e1 : y.mode.isWaiting = true := by rw [ym]; rfl
          rw [if_pos e1]
          have hne : u ≠ t := fun e => by
            subst e
            rw [hx] at hy
            cases hy
            rw [xr] at ym
            cases ym
          obtain ⟨w1, nu⟩ := w.deq hq
          obtain ⟨du, hdu, _, _⟩ := dOf w hy
          have oy := w.th u du y hdu hy
          have w2 := w1.other (u := u) (z := { y with mode := .running, clock := Nat.max y.clock (x.clock + 1) }) hdu hy nu ⟨oy.regs, oy.pc, oy.need, fun e => (by cases e), oy.out⟩ rfl
          have hx2 : (setT { m with queues := m.queues.set c r } u { y with mode := .running, clock := Nat.max y.clock (x.clock + 1) }).threads[t]? = some x := by rw [setT_ne (Ne.symm hne)]; exact hx
          have w3 := w2.self hd hx2 xr (y := x.advance.tick (p.weight t)) ⟨ok.regs, hlt, ok.need, fun e => (notIdle e).elim, outOk⟩ rfl
          rw [setT_comm (Ne.symm hne)] at w3
          exact w3
      | start u =>
        have ea : p.act t x = .start u := by simp [Program.act, Thread.next, hn, ec, hi]
        rw [ea]
        simp only [effect]
        have hu : u < m.threads.length := by rw [w.threads]; exact fi
        have hy : m.threads[u]? = some m.threads[u] := by simp [hu]
        rw [hy]
        simp only
        generalize m.threads[u] = y at hy
        by_cases i : y.mode.isIdle = true
        · rw [if_pos i]
          have yi : y.mode = .idle := by cases hm : y.mode <;> rw [hm] at i <;> simp_all [Mode.isIdle]
          have hne : u ≠ t := fun e => by
            subst e
            rw [hx] at hy
            cases hy
            rw [xr] at yi
            cases yi
          obtain ⟨du, hdu, _, _⟩ := dOf w hy
          have oy := w.th u du y hdu hy
          have w2 := w.other (u := u) (z := { y with mode := .running, clock := Nat.max y.clock (x.clock + 1) }) hdu hy (not_queued w hy (by rw [yi]; intro z; cases z)) ⟨oy.regs, oy.pc, oy.need, fun e => (by cases e), oy.out⟩ rfl
          have hx2 : (setT m u { y with mode := .running, clock := Nat.max y.clock (x.clock + 1) }).threads[t]? = some x := by rw [setT_ne (Ne.symm hne)]; exact hx
          have w3 := w2.self hd hx2 xr (y := x.advance.tick (p.weight t)) ⟨ok.regs, hlt, ok.need, fun e => (notIdle e).elim, outOk⟩ rfl
          rw [setT_comm (Ne.symm hne)] at w3
          exact w3
        · rw [if_neg i]
          exact adv _ rfl
      | join u =>
        have ea : p.act t x = .join u := by simp [Program.act, Thread.next, hn, ec, hi]
        rw [ea]
        simp only [effect]
        split
        · exact adv _ rfl
        · exact self (x.tick (p.weight t)) rfl ok.regs ok.pc ok.need (fun e => (notIdle e).elim) outOk
end CT

namespace CT
open R7285d.Spec

theorem flatten_rep : ∀ n : Nat, (List.replicate n ([] : List Nat)).flatten = []
  | 0 => rfl
  | n + 1 => by rw [List.replicate_succ, List.flatten_cons, flatten_rep n]; rfl
theorem sum_begin : ∀ l : List ThreadD, ((l.map ThreadD.begin).map (·.count)).sum = 0
  | [] => rfl
  | a :: l => by
    simp only [List.map_cons, List.sum_cons, sum_begin l]
    rfl
theorem load_wf {p : Prog} (F : Fit p) : Wf p p.load 0 where
  threads := by simp [Program.load]
  shared := by simp [Program.load]
  locks := by simp [Program.load]
  queues := by simp [Program.load]
  th := fun t d x hd hx => by
    simp only [Program.load, List.getElem?_map, hd, Option.map_some, Option.some.injEq] at hx
    subst hx
    exact ⟨by simp [ThreadD.begin, registerCount], by simp [ThreadD.begin], by simp [ThreadD.begin], by simp [ThreadD.begin], by simp [ThreadD.begin]⟩
  order := fun l k h => by
    simp only [Program.load, List.getElem?_replicate] at h
    split at h
    · cases h; simp
    · cases h
  qlen := fun c q h => by
    simp only [Program.load, List.getElem?_replicate] at h
    split at h
    · cases h; simp
    · cases h
  wait := fun c q u h hu => by
    simp only [Program.load, List.getElem?_replicate] at h
    split at h
    · cases h; simp at hu
    · cases h
  once := by simp only [Program.load, flatten_rep]; exact List.nodup_nil
  total := sum_begin _

theorem go_least {p : Prog} {m : Mach} {t : Nat} (h : IsLeast m t) : ∃ m', p.go m t = some m' := by
  obtain ⟨x, hx, rx, lx⟩ := h
  rw [go_at hx]
  simp [rx, lx]
theorem one_succ {p : Prog} {n t : Nat} {m' : Mach} (h : (p.one n).first = some t) (g : p.go (p.one n) t = some m') : p.one (n + 1) = m' := by
  show p.onward (p.one n) = m'
  unfold Program.onward
  rw [h]
  simp only [g, Option.getD_some]
theorem one_stay {p : Prog} {n : Nat} (h : (p.one n).first = none) : ∀ k, p.one (n + k) = p.one n
  | 0 => rfl
  | k + 1 => by
    show p.onward (p.one (n + k)) = p.one n
    rw [one_stay h k]
    unfold Program.onward
    rw [h]
/-- the one run has n events at least -/
def Runs (p : Prog) (n : Nat) : Prop := ∀ j, j < n → (p.one j).first ≠ none
theorem Runs.zero {p : Prog} : Runs p 0 := fun j h => absurd h (Nat.not_lt_zero j)
theorem Runs.succ {p : Prog} {n t : Nat} (r : Runs p n) (h : (p.one n).first = some t) : Runs p (n + 1) := fun j hj => by
  by_cases e : j = n
  · subst e; rw [h]; exact fun z => by cases z
  · exact r j (by omega)
theorem wf_one {p : Prog} (F : Fit p) : ∀ {n : Nat}, Runs p n → Wf p (p.one n) n
  | 0, _ => load_wf F
  | n + 1, r => by
    have w := wf_one F (n := n) fun j h => r j (by omega)
    cases h : (p.one n).first with
    | none => exact absurd h (r n (by omega))
    | some t =>
      obtain ⟨m', g⟩ := go_least (p := p) (first_some.mp h)
      rw [one_succ h g]
      exact w.go F g
theorem one_over {p : Prog} {n : Nat} (h : (p.one n).first = none) {k : Nat} (hk : n ≤ k) : p.one k = p.one n := by
  obtain ⟨d, rfl⟩ : ∃ d, k = n + d := ⟨k - n, by omega⟩
  exact one_stay h d
/-- any number of events of the one run is well: the total is at most that number -/
theorem wf_any {p : Prog} (F : Fit p) (n : Nat) : ∃ k, k ≤ n ∧ Runs p k ∧ p.one n = p.one k ∧ (k = n ∨ (p.one k).first = none) := by
  induction n with
  | zero => exact ⟨0, Nat.le_refl _, Runs.zero, rfl, .inl rfl⟩
  | succ n ih =>
    obtain ⟨k, hk, r, e, o⟩ := ih
    rcases o with o | o
    · subst o
      cases h : (p.one k).first with
      | none => exact ⟨k, by omega, r, one_over h (by omega), .inr h⟩
      | some t => exact ⟨k + 1, Nat.le_refl _, r.succ h, rfl, .inl rfl⟩
    · exact ⟨k, by omega, r, one_over o (by omega), .inr o⟩
theorem total_one {p : Prog} (F : Fit p) (n : Nat) : total (p.one n) ≤ n := by
  obtain ⟨k, hk, r, e, _⟩ := wf_any F n
  have w := (wf_one F r).total
  show (Machine.counts (p.one n)).sum ≤ n
  rw [e]
  unfold Machine.counts
  rw [w]
  exact hk

/-! ### what programOne tells -/
theorem find_range {q : Nat → Bool} {n : Nat} (hn : q n = true) (hl : ∀ j, j < n → q j = false) : ∀ {k : Nat}, n < k → (List.range k).find? q = some n
  | 0, h => absurd h (Nat.not_lt_zero _)
  | k + 1, h => by
    rw [List.range_succ, List.find?_append]
    by_cases e : n < k
    · rw [find_range hn hl e]
      rfl
    · have e' : n = k := by omega
      subst e'
      have : (List.range n).find? q = none := List.find?_eq_none.mpr fun x hx => by
        rw [hl x (List.mem_range.mp hx)]
        simp
      rw [this]
      simp [hn]
theorem find_range_none {q : Nat → Bool} {k : Nat} (hl : ∀ j, j < k → q j = false) : (List.range k).find? q = none :=
  List.find?_eq_none.mpr fun x hx => by
    rw [hl x (List.mem_range.mp hx)]
    simp
theorem length_some {p : Prog} {n k : Nat} (r : Runs p n) (h : (p.one n).first = none) (hk : n < k) : p.length k = some n :=
  find_range (q := fun n => (p.one n).first.isNone) (by simp [h]) (fun j hj => by
    cases e : (p.one j).first with
    | none => exact absurd e (r j hj)
    | some t => rfl) hk
theorem length_none {p : Prog} {k : Nat} (r : Runs p k) : p.length k = none :=
  find_range_none fun j hj => by
    cases e : (p.one j).first with
    | none => exact absurd e (r j hj)
    | some t => rfl
theorem race_zero {p : Prog} : p.race 0 = none := rfl
theorem race_succ {p : Prog} {n : Nat} : p.race (n + 1) = (p.race n).or (match (p.one n).first with
    | some t => if p.guarded (p.one n) t then none else some (n, t)
    | none => none) := by
  unfold Program.race
  rw [List.range_succ, List.filterMap_append, List.find?_append]
  congr 1
  cases h : (p.one n).first with
  | none => simp [h]
  | some t =>
    simp only [List.filterMap_cons, h, Option.map_some, List.filterMap_nil]
    by_cases g : p.guarded (p.one n) t = true
    · simp [g]
    · simp [g]
theorem race_over {p : Prog} {n : Nat} (h : (p.one n).first = none) : ∀ k, p.race (n + k) = p.race n
  | 0 => rfl
  | k + 1 => by
    show p.race (n + k + 1) = p.race n
    rw [race_succ, one_stay h k, h, race_over h k]
    simp
/-- the variable whose lock thread t lacks -/
def lackOf (p : Prog) (m : Mach) (t : Nat) : Option Nat := match p.access m t with
  | some v => if m.holds (p.guard v) t then none else some v
  | none => none
theorem guarded_lack {p : Prog} {m : Mach} {t : Nat} : p.guarded m t = (lackOf p m t).isNone := by
  unfold Program.guarded lackOf
  cases h : p.access m t with
  | none => rfl
  | some v =>
    simp only
    by_cases g : m.holds (p.guard v) t = true
    · simp [g]
    · simp [g]
end CT

namespace CT
open R7285d.Spec

/-! ### counts -/
theorem effect_count (m : Mach) (t : Nat) (x : Thr) (w : Nat) (o v : Nat → Bool) (a : Act) (ha : ∀ y, a = .own y → y.count = x.count) :
    (effect m t x w o v a).self.count = x.count + 1 ∧ ∀ u z, (effect m t x w o v a).other = some (u, z) → ∃ y, m.threads[u]? = some y ∧ z.count = y.count ∧ y.mode.isRunning = false := by
  cases a with
  | own y =>
    refine ⟨?_, fun u z h => by cases h⟩
    show y.count + 1 = x.count + 1
    rw [ha y rfl]
  | load r i => exact ⟨rfl, fun u z h => by cases h⟩
  | store i z => exact ⟨rfl, fun u z h => by cases h⟩
  | lock l =>
    simp only [effect]
    split
    · refine ⟨?_, fun u z h => by cases h⟩
      show x.taken.count + 1 = x.count + 1
      unfold Thread.taken
      cases x.need <;> rfl
    · exact ⟨rfl, fun u z h => by cases h⟩
  | unlock l =>
    simp only [effect]
    split <;> exact ⟨rfl, fun u z h => by cases h⟩
  | wait c l =>
    simp only [effect]
    split <;> exact ⟨rfl, fun u z h => by cases h⟩
  | wake c =>
    simp only [effect]
    split
    · split
      · rename_i y hy
        split
        · rename_i hw
          refine ⟨rfl, fun u z h => ?_⟩
          cases h
          refine ⟨y, hy, rfl, ?_⟩
          cases hm : y.mode <;> rw [hm] at hw <;> simp_all [Mode.isWaiting, Mode.isRunning]
        · exact ⟨rfl, fun u z h => by cases h⟩
      · exact ⟨rfl, fun u z h => by cases h⟩
    · exact ⟨rfl, fun u z h => by cases h⟩
  | start u =>
    simp only [effect]
    split
    · rename_i y hy
      split
      · rename_i hw
        refine ⟨rfl, fun u z h => ?_⟩
        cases h
        refine ⟨y, hy, rfl, ?_⟩
        cases hm : y.mode <;> rw [hm] at hw <;> simp_all [Mode.isIdle, Mode.isRunning]
      · exact ⟨rfl, fun u z h => by cases h⟩
    · exact ⟨rfl, fun u z h => by cases h⟩
  | join u =>
    simp only [effect]
    split <;> exact ⟨rfl, fun u z h => by cases h⟩
  | stop => exact ⟨rfl, fun u z h => by cases h⟩
theorem act_own {p : Prog} {t : Nat} {x y : Thr} (h : p.act t x = .own y) : y.count = x.count := by
  unfold Program.act Thread.next at h
  split at h
  · cases h
  · split at h <;> first | (cases h; done) | (cases h; rfl) | (cases h; split <;> rfl)
theorem counts_go {p : Prog} {m m' : Mach} {t : Nat} {x : Thr} (hx : m.threads[t]? = some x) (h : p.go m t = some m') : m'.counts = m.counts.set t (x.count + 1) := by
  obtain ⟨x', hx', run, _, rfl⟩ := go_some h
  rw [hx] at hx'
  cases hx'
  obtain ⟨e1, e2⟩ := effect_count m t x (p.weight t) (fun l => m.isOpen l (x.clock, t)) (fun u => m.isOver u (x.clock, t)) (p.act t x) fun y h => act_own h
  unfold evOf Machine.counts Machine.apply
  generalize effect m t x (p.weight t) (fun l => m.isOpen l (x.clock, t)) (fun u => m.isOver u (x.clock, t)) (p.act t x) = e at e1 e2
  simp only
  cases ho : e.other with
  | none =>
    simp only [setSome, List.map_set, e1]
  | some uz =>
    obtain ⟨u, z⟩ := uz
    obtain ⟨y, hy, ec, nr⟩ := e2 u z ho
    have hne : u ≠ t := fun q => by
      subst q
      rw [hx] at hy
      cases hy
      rw [run] at nr
      cases nr
    simp only [setSome, List.map_set, e1, ec]
    apply List.ext_getElem?
    intro i
    by_cases ei : i = u
    · subst ei
      have hl : i < m.threads.length := (List.getElem?_eq_some_iff.mp hy).1
      have hg : m.threads[i] = y := (List.getElem?_eq_some_iff.mp hy).2
      simp [List.getElem?_set, Ne.symm hne, hl, hg]
    · simp [List.getElem?_set, Ne.symm ei]

/-! ### back in step -/
theorem getD_map_count (m : Mach) (t : Nat) : m.counts.getD t 0 = match m.threads[t]? with
    | some x => x.count
    | none => 0 := by
  unfold Machine.counts
  rw [List.getD_eq_getElem?_getD, List.getElem?_map]
  cases m.threads[t]? <;> rfl
def gap : List Nat → List Nat → Nat
  | g :: gs, c :: cs => (g - c) + gap gs cs
  | _, _ => 0
theorem gap_le : ∀ gs cs : List Nat, gap gs cs ≤ gs.sum
  | [], _ => by simp [gap]
  | g :: gs, [] => by simp [gap]
  | g :: gs, c :: cs => by
    have := gap_le gs cs
    simp only [gap, List.sum_cons]
    omega
theorem gap_step : ∀ (gs cs : List Nat) (t c : Nat), cs[t]? = some c → c < gs.getD t 0 → gap gs (cs.set t (c + 1)) + 1 = gap gs cs
  | [], _, _, _, _, h => by simp at h
  | g :: gs, [], _, _, h, _ => by simp at h
  | g :: gs, a :: cs, 0, c, h, k => by
    simp at h k
    subst h
    simp only [List.set_cons_zero, gap]
    omega
  | g :: gs, a :: cs, t + 1, c, h, k => by
    have := gap_step gs cs t c (by simpa using h) (by simpa using k)
    simp only [List.set_cons_succ, gap]
    omega
theorem follow_none {p : Prog} {goal m : Mach} {f : Nat} (h : p.nextTo goal m = none) : p.follow goal f m = ([], m) := by
  cases f with
  | zero => rfl
  | succ f => simp [Program.follow, h]
theorem follow_some {p : Prog} {goal m m' : Mach} {f t : Nat} (h : p.nextTo goal m = some t) (g : p.go m t = some m') : p.follow goal (f + 1) m = (t :: (p.follow goal f m').1, (p.follow goal f m').2) := by
  simp [Program.follow, h, g]
theorem follow_len {p : Prog} {goal : Mach} : ∀ (f : Nat) (m : Mach), (p.follow goal f m).1.length ≤ f
  | 0, m => by simp [Program.follow]
  | f + 1, m => by
    cases h : p.nextTo goal m with
    | none => rw [follow_none h]; simp
    | some t =>
      cases g : p.go m t with
      | none => simp [Program.follow, h, g]
      | some m' =>
        rw [follow_some h g]
        have := follow_len (p := p) (goal := goal) f m'
        simp only [List.length_cons]
        omega
theorem mem_choices {p : Prog} {m : Mach} {t : Nat} : t ∈ p.choices m ↔ ∃ m', p.go m t = some m' := by
  unfold Program.choices
  rw [List.mem_filter, List.mem_range]
  constructor
  · intro h
    exact Option.isSome_iff_exists.mp h.2
  · rintro ⟨m', h⟩
    obtain ⟨x, hx, _⟩ := go_some h
    exact ⟨(List.getElem?_eq_some_iff.mp hx).1, by simp [h]⟩
theorem next_some {p : Prog} {goal m : Mach} {t : Nat} (h : p.nextTo goal m = some t) : ∃ m' x, p.go m t = some m' ∧ m.threads[t]? = some x ∧ x.count < goal.counts.getD t 0 := by
  unfold Program.nextTo at h
  obtain ⟨m', g⟩ := mem_choices.mp (List.mem_of_find?_eq_some h)
  have := List.find?_some h
  obtain ⟨x, hx, _⟩ := go_some g
  simp only [getD_map_count m t, hx, decide_eq_true_eq] at this
  exact ⟨m', x, g, hx, this⟩
theorem doAll_follow {p : Prog} {goal : Mach} : ∀ (f : Nat) (m : Mach) (n : Nat), RunState.doAll ⟨p, m, n⟩ (p.follow goal f m).1 = ⟨p, (p.follow goal f m).2, n + (p.follow goal f m).1.length⟩
  | 0, m, n => by simp [Program.follow, RunState.doAll]
  | f + 1, m, n => by
    cases h : p.nextTo goal m with
    | none => rw [follow_none h]; simp [RunState.doAll]
    | some t =>
      obtain ⟨m', x, g, hx, _⟩ := next_some h
      rw [follow_some h g]
      have ih := doAll_follow (p := p) (goal := goal) f m' (n + 1)
      unfold RunState.doAll at ih ⊢
      simp only [List.foldl_cons]
      have e : RunState.event ⟨p, m, n⟩ t = ⟨p, m', n + 1⟩ := by simp [RunState.event, g]
      rw [e, ih]
      simp only [List.length_cons]
      congr 1
      omega
/-- turns of the program's own loop: enough fuel is left -/
structure Following (p : Prog) (goal m0 : Mach) (f0 : Nat) (m : Mach) (k : Nat) : Prop where
  ex : ∃ f L, gap goal.counts m.counts ≤ f ∧ L.length = k ∧ p.follow goal f0 m0 = (L ++ (p.follow goal f m).1, (p.follow goal f m).2)
theorem Following.start {p : Prog} {goal m : Mach} {f : Nat} (h : goal.counts.sum ≤ f) : Following p goal m f m 0 :=
  ⟨f, [], Nat.le_trans (gap_le _ _) h, rfl, by simp⟩
theorem Following.go {p : Prog} {goal m0 m m' : Mach} {f0 k t : Nat} (F : Following p goal m0 f0 m k) (h : p.nextTo goal m = some t) (g : p.go m t = some m') : Following p goal m0 f0 m' (k + 1) := by
  obtain ⟨f, L, h1, h2, h3⟩ := F.ex
  obtain ⟨m1, x, g', hx, lt⟩ := next_some h
  rw [g] at g'
  cases g'
  have hc : m.counts[t]? = some x.count := by simp [Machine.counts, hx]
  have st := gap_step goal.counts m.counts t x.count hc lt
  rw [← counts_go hx g] at st
  cases f with
  | zero => omega
  | succ f =>
    refine ⟨f, L ++ [t], by omega, by simp [h2], ?_⟩
    rw [h3, follow_some h g]
    simp
theorem Following.over {p : Prog} {goal m0 m : Mach} {f0 k : Nat} (F : Following p goal m0 f0 m k) (h : p.nextTo goal m = none) : (p.follow goal f0 m0).2 = m ∧ (p.follow goal f0 m0).1.length = k := by
  obtain ⟨f, L, h1, h2, h3⟩ := F.ex
  rw [follow_none h] at h3
  rw [h3]
  simp [h2]
theorem behind_zip {a b : Mach} (h : a.threads.length = b.threads.length) : behind a b = !((List.zipWith (fun (y : Nat) (c : Nat) => decide (y < c)) b.counts a.counts).any id) := by
  have aux : ∀ (xs ys : List Nat), xs.length = ys.length → ((List.range xs.length).all fun t => decide (xs.getD t 0 ≤ ys.getD t 0)) = !((List.zipWith (fun (y : Nat) (c : Nat) => decide (y < c)) ys xs).any id) := by
    intro xs
    induction xs with
    | nil => intro ys h; cases ys with
      | nil => rfl
      | cons y ys => simp at h
    | cons x xs ih =>
      intro ys h
      cases ys with
      | nil => simp at h
      | cons y ys =>
        have := ih ys (by simpa using h)
        simp only [List.length_cons, List.range_succ_eq_map, List.all_cons, List.all_map, List.zipWith_cons_cons, List.any_cons, List.getD_cons_zero, id]
        have e : ((fun t => decide ((x :: xs).getD t 0 ≤ (y :: ys).getD t 0)) ∘ Nat.succ) = fun t => decide (xs.getD t 0 ≤ ys.getD t 0) := by
          funext t
          simp
        rw [e, this, Bool.not_or]
        congr 1
        by_cases c : x ≤ y
        · simp [c, Nat.not_lt.mpr c]
        · simp [c, Nat.lt_of_not_le c]
  have := aux a.counts b.counts (by simp [Machine.counts, h])
  unfold behind
  rw [← this]
  simp [Machine.counts]
theorem meets_some {p : Prog} {m : Mach} {n : Nat} (hn : behind m (p.one n) = true) (hl : ∀ j, j < n → behind m (p.one j) = false) (hk : n ≤ 5000) : p.meets m = some n :=
  find_range hn hl (by unfold maxEvents; omega)
theorem meets_top {p : Prog} {m : Mach} (hl : ∀ j, j ≤ 5000 → behind m (p.one j) = false) : p.meets m = none :=
  find_range_none fun j hj => hl j (by unfold maxEvents at hj; omega)
theorem meets_over {p : Prog} {m : Mach} {n : Nat} (hl : ∀ j, j ≤ n → behind m (p.one j) = false) (h : (p.one n).first = none) : p.meets m = none :=
  find_range_none fun j hj => by
    by_cases c : j ≤ n
    · exact hl j c
    · rw [one_over h (by omega)]
      exact hl n (Nat.le_refl _)
end CT

namespace CT
open PySem PySem.Spec PyProof.Rows L2
/-! ### parts of the heap that stand apart -/
section
variable {ι : Type} [DecidableEq ι]
def putS (S : ι → Hp) (q : ι) (h : Hp) : ι → Hp := fun r => if r = q then h else S r
theorem putS_same {S : ι → Hp} {q : ι} {h : Hp} : putS S q h q = h := if_pos rfl
theorem putS_ne {S : ι → Hp} {q r : ι} {h : Hp} (e : r ≠ q) : putS S q h r = S r := if_neg e
/-- the parts stand in the heap, apart from one another -/
structure Fam (H : Hp) (S : ι → Hp) : Prop where
  sub : ∀ q b o, S q b = some o → H b = some o
  dis : ∀ q r b, S q b ≠ none → S r b ≠ none → q = r
/-- from H, S to H', S': what is outside of the parts stands, the parts grow by new objects alone, tuples stand -/
structure Stp (H : Hp) (S : ι → Hp) (H' : Hp) (S' : ι → Hp) : Prop where
  out : ∀ b o, H b = some o → (∀ q, S q b = none) → H' b = some o
  dom : ∀ q b, S' q b ≠ none → (∃ r, S r b ≠ none) ∨ H b = none
  tups : ∀ b xs, H b = some (.tup xs) → H' b = some (.tup xs)
theorem none_or {α : Type} (x : Option α) : x = none ∨ ∃ a, x = some a := by
  cases x with
  | none => exact .inl rfl
  | some a => exact .inr ⟨a, rfl⟩
theorem some_ne {α : Type} {x : Option α} {a : α} (h : x = some a) : x ≠ none := fun e => by
  rw [h] at e
  cases e
theorem Stp.refl (H : Hp) (S : ι → Hp) : Stp H S H S := ⟨fun _ _ e _ => e, fun q b h => .inl ⟨q, h⟩, fun _ _ e => e⟩
theorem Stp.outside {H H' : Hp} {S S' : ι → Hp} (s : Stp H S H' S') {b : Addr} {o : HO} (h : H b = some o) (n : ∀ q, S q b = none) : ∀ q, S' q b = none := fun q => by
  rcases none_or (S' q b) with e | ⟨u, e⟩
  · exact e
  · rcases s.dom q b (some_ne e) with ⟨r, k⟩ | k
    · exact absurd (n r) k
    · rw [h] at k
      cases k
theorem Stp.trans {H H1 H2 : Hp} {S S1 S2 : ι → Hp} (a : Stp H S H1 S1) (b : Stp H1 S1 H2 S2) : Stp H S H2 S2 where
  out := fun c o e n => b.out c o (a.out c o e n) (a.outside e n)
  dom := fun q c h => by
    rcases b.dom q c h with ⟨r, k⟩ | k
    · exact a.dom r c k
    · rcases none_or (H c) with e | ⟨o, e⟩
      · exact .inr e
      · by_cases n : ∀ q, S q c = none
        · rw [a.out c o e n] at k
          cases k
        · exact .inl (Classical.not_forall.mp n)
  tups := fun c xs e => b.tups c xs (a.tups c xs e)
theorem Stp.same {H H' : Hp} {S : ι → Hp} (e : Same H H') : Stp H S H' S := ⟨fun b o h _ => e b o h, fun q b h => .inl ⟨q, h⟩, fun b xs h => e b _ h⟩
theorem Fam.same {H H' : Hp} {S : ι → Hp} (F : Fam H S) (e : Same H H') : Fam H' S := ⟨fun q b o h => e b o (F.sub q b o h), F.dis⟩
theorem Fam.fresh {H : Hp} {S : ι → Hp} (F : Fam H S) {b : Addr} (h : H b = none) (q : ι) : S q b = none := by
  rcases none_or (S q b) with e | ⟨o, e⟩
  · exact e
  · rw [F.sub q b o e] at h
    cases h
theorem Fam.one {H : Hp} {S : ι → Hp} (F : Fam H S) {b : Addr} {q r : ι} {o : HO} (h : S q b = some o) (n : r ≠ q) : S r b = none := by
  rcases none_or (S r b) with e | ⟨u, e⟩
  · exact e
  · exact absurd (F.dis r q b (some_ne e) (some_ne h)) n
/-- an object of a part is written -/
theorem Fam.wr {H : Hp} {S : ι → Hp} (F : Fam H S) {b : Addr} {q : ι} {o0 : HO} (h : S q b = some o0) (o : HO) : Fam (upd H b o) (putS S q (upd (S q) b o)) where
  sub := fun r c u e => by
    by_cases z : r = q
    · subst z
      rw [putS_same] at e
      by_cases y : c = b
      · subst y
        rw [upd_same] at e ⊢
        exact e
      · rw [upd_ne y] at e ⊢
        exact F.sub r c u e
    · rw [putS_ne z] at e
      have y : c ≠ b := fun y => by
        subst y
        rw [F.one h z] at e
        cases e
      rw [upd_ne y]
      exact F.sub r c u e
  dis := fun r t c a k => by
    have key : ∀ r, putS S q (upd (S q) b o) r c ≠ none → S r c ≠ none := fun r a => by
      by_cases z : r = q
      · subst z
        rw [putS_same] at a
        by_cases y : c = b
        · subst y
          exact some_ne h
        · rw [upd_ne y] at a
          exact a
      · rw [putS_ne z] at a
        exact a
    exact F.dis r t c (key r a) (key t k)
theorem Stp.wr {H : Hp} {S : ι → Hp} (F : Fam H S) {b : Addr} {q : ι} {o0 : HO} (h : S q b = some o0) (t : ∀ xs, o0 ≠ .tup xs) (o : HO) : Stp H S (upd H b o) (putS S q (upd (S q) b o)) where
  out := fun c u e n => by
    have y : c ≠ b := fun y => by
      subst y
      rw [n q] at h
      cases h
    rw [upd_ne y]
    exact e
  dom := fun r c a => by
    by_cases z : r = q
    · subst z
      rw [putS_same] at a
      by_cases y : c = b
      · subst y
        exact .inl ⟨r, some_ne h⟩
      · rw [upd_ne y] at a
        exact .inl ⟨r, a⟩
    · rw [putS_ne z] at a
      exact .inl ⟨r, a⟩
  tups := fun c xs e => by
    have y : c ≠ b := fun y => by
      subst y
      rw [F.sub q c o0 h] at e
      exact t xs (Option.some.inj e)
    rw [upd_ne y]
    exact e
/-- a new object, into a part -/
theorem Fam.nw {H : Hp} {S : ι → Hp} (F : Fam H S) {b : Addr} (h : H b = none) (q : ι) (o : HO) : Fam (upd H b o) (putS S q (upd (S q) b o)) where
  sub := fun r c u e => by
    by_cases z : r = q
    · subst z
      rw [putS_same] at e
      by_cases y : c = b
      · subst y
        rw [upd_same] at e ⊢
        exact e
      · rw [upd_ne y] at e ⊢
        exact F.sub r c u e
    · rw [putS_ne z] at e
      have y : c ≠ b := fun y => by
        subst y
        rw [F.fresh h r] at e
        cases e
      rw [upd_ne y]
      exact F.sub r c u e
  dis := fun r t c a k => by
    have key : ∀ r, putS S q (upd (S q) b o) r c ≠ none → S r c ≠ none ∨ (c = b ∧ r = q) := fun r a => by
      by_cases z : r = q
      · by_cases y : c = b
        · exact .inr ⟨y, z⟩
        · subst z
          rw [putS_same, upd_ne y] at a
          exact .inl a
      · rw [putS_ne z] at a
        exact .inl a
    rcases key r a with x | ⟨x, x'⟩
    · rcases key t k with y | ⟨y, _⟩
      · exact F.dis r t c x y
      · subst y
        exact absurd (F.fresh h r) x
    · rcases key t k with y | ⟨_, y'⟩
      · subst x
        exact absurd (F.fresh h t) y
      · rw [x', y']
theorem Stp.nw {H : Hp} {S : ι → Hp} {b : Addr} (h : H b = none) (q : ι) (o : HO) : Stp H S (upd H b o) (putS S q (upd (S q) b o)) where
  out := fun c u e _ => by
    rw [upd_ne (ne_of_none e h)]
    exact e
  dom := fun r c a => by
    by_cases z : r = q
    · subst z
      rw [putS_same] at a
      by_cases y : c = b
      · subst y
        exact .inr h
      · rw [upd_ne y] at a
        exact .inl ⟨r, a⟩
    · rw [putS_ne z] at a
      exact .inl ⟨r, a⟩
  tups := fun c xs e => by
    rw [upd_ne (ne_of_none e h)]
    exact e
end
theorem same_new {H : Hp} {b : Addr} {o : HO} (h : H b = none) : Same H (upd H b o) := fun c u e => by
  rw [upd_ne (ne_of_none e h)]
  exact e
/-- a heap over a new object: what is done to that object leaves the rest -/
theorem same_at {H H' : Hp} {b : Addr} {o : HO} (h : H b = none) (s : Same H H') : Same H (upd H' b o) := fun c u e => by
  rw [upd_ne (ne_of_none e h)]
  exact s c u e

/-! ### machines in the heap -/
inductive MP where
  | main | cont | thr (k : Nat) | lock (k : Nat) | que (k : Nat)
  deriving DecidableEq
structure Lay where
  a : Addr
  tl : Addr
  ct : Addr
  ll : Addr
  ql : Addr
  ta : List Addr
  la : List Addr
  qa : List Addr
  pa : Addr
  crs : List Addr
def modeN : R7285d.Spec.Mode → Int
  | .idle => 0
  | .running => 1
  | .waiting => 2
  | .ended => 3
def optV : Option Nat → V
  | none => .non
  | some n => .int (n : Int)
abbrev natV (n : Nat) : V := .int (n : Int)
def tF (cr : Addr) (wt : Nat) (x : Thr) (rg pr : Addr) : List (PySem.Str × V) :=
  [("code", .ref cr), ("weight", natV wt), ("mode", .int (modeN x.mode)), ("place", natV x.pc), ("registers", .ref rg), ("printed", .ref pr), ("wanted", optV x.need), ("clock", natV x.clock), ("events", natV x.count)]
def lF (hd : Option Nat) (od : Addr) (fv : V) : List (PySem.Str × V) := [("holder", optV hd), ("order", .ref od), ("freed", fv)]
def mF (L : Lay) (n : Nat) : List (PySem.Str × V) := [("program", .ref L.pa), ("threads", .ref L.tl), ("contents", .ref L.ct), ("locks", .ref L.ll), ("queues", .ref L.ql), ("events", natV n)]
def pF (lo co : Nat) (c g w s k : Addr) : List (PySem.Str × V) := [("locks", natV lo), ("conditions", natV co), ("contents", .ref c), ("guards", .ref g), ("weights", .ref w), ("started", .ref s), ("codes", .ref k)]
def vF (k : Int) (h : V) : List (PySem.Str × V) := [("kind", .int k), ("held", h)]
section
variable {cr rg pr od c g w s k : Addr} {wt n lo co : Nat} {x : Thr} {hd : Option Nat} {fv h : V} {L : Lay} {i : Int}
theorem tF_code : (tF cr wt x rg pr).lookup ("code" : PySem.Str) = some (.ref cr) := by kernel_rfl
theorem tF_weight : (tF cr wt x rg pr).lookup ("weight" : PySem.Str) = some (natV wt) := by kernel_rfl
theorem tF_mode : (tF cr wt x rg pr).lookup ("mode" : PySem.Str) = some (.int (modeN x.mode)) := by kernel_rfl
theorem tF_place : (tF cr wt x rg pr).lookup ("place" : PySem.Str) = some (natV x.pc) := by kernel_rfl
theorem tF_registers : (tF cr wt x rg pr).lookup ("registers" : PySem.Str) = some (.ref rg) := by kernel_rfl
theorem tF_printed : (tF cr wt x rg pr).lookup ("printed" : PySem.Str) = some (.ref pr) := by kernel_rfl
theorem tF_wanted : (tF cr wt x rg pr).lookup ("wanted" : PySem.Str) = some (optV x.need) := by kernel_rfl
theorem tF_clock : (tF cr wt x rg pr).lookup ("clock" : PySem.Str) = some (natV x.clock) := by kernel_rfl
theorem tF_events : (tF cr wt x rg pr).lookup ("events" : PySem.Str) = some (natV x.count) := by kernel_rfl
theorem tF_put_mode {md : R7285d.Spec.Mode} : putF "mode" (.int (modeN md)) (tF cr wt x rg pr) = tF cr wt { x with mode := md } rg pr := by kernel_rfl
theorem tF_put_place {y : Nat} : putF "place" (natV y) (tF cr wt x rg pr) = tF cr wt { x with pc := y } rg pr := by kernel_rfl
theorem tF_put_wanted {y : Option Nat} : putF "wanted" (optV y) (tF cr wt x rg pr) = tF cr wt { x with need := y } rg pr := by kernel_rfl
theorem tF_put_clock {y : Nat} : putF "clock" (natV y) (tF cr wt x rg pr) = tF cr wt { x with clock := y } rg pr := by kernel_rfl
theorem tF_put_events {y : Nat} : putF "events" (natV y) (tF cr wt x rg pr) = tF cr wt { x with count := y } rg pr := by kernel_rfl
theorem lF_holder : (lF hd od fv).lookup ("holder" : PySem.Str) = some (optV hd) := by kernel_rfl
theorem lF_order : (lF hd od fv).lookup ("order" : PySem.Str) = some (.ref od) := by kernel_rfl
theorem lF_freed : (lF hd od fv).lookup ("freed" : PySem.Str) = some fv := by kernel_rfl
theorem lF_put_holder {y : Option Nat} : putF "holder" (optV y) (lF hd od fv) = lF y od fv := by kernel_rfl
theorem lF_put_order {y : Addr} : putF "order" (.ref y) (lF hd od fv) = lF hd y fv := by kernel_rfl
theorem lF_put_freed {y : V} : putF "freed" y (lF hd od fv) = lF hd od y := by kernel_rfl
theorem mF_program : (mF L n).lookup ("program" : PySem.Str) = some (.ref L.pa) := by kernel_rfl
theorem mF_threads : (mF L n).lookup ("threads" : PySem.Str) = some (.ref L.tl) := by kernel_rfl
theorem mF_contents : (mF L n).lookup ("contents" : PySem.Str) = some (.ref L.ct) := by kernel_rfl
theorem mF_locks : (mF L n).lookup ("locks" : PySem.Str) = some (.ref L.ll) := by kernel_rfl
theorem mF_queues : (mF L n).lookup ("queues" : PySem.Str) = some (.ref L.ql) := by kernel_rfl
theorem mF_events : (mF L n).lookup ("events" : PySem.Str) = some (natV n) := by kernel_rfl
theorem mF_put_events {y : Nat} : putF "events" (natV y) (mF L n) = mF L y := by kernel_rfl
theorem pF_locks : (pF lo co c g w s k).lookup ("locks" : PySem.Str) = some (natV lo) := by kernel_rfl
theorem pF_conditions : (pF lo co c g w s k).lookup ("conditions" : PySem.Str) = some (natV co) := by kernel_rfl
theorem pF_contents : (pF lo co c g w s k).lookup ("contents" : PySem.Str) = some (.ref c) := by kernel_rfl
theorem pF_guards : (pF lo co c g w s k).lookup ("guards" : PySem.Str) = some (.ref g) := by kernel_rfl
theorem pF_weights : (pF lo co c g w s k).lookup ("weights" : PySem.Str) = some (.ref w) := by kernel_rfl
theorem pF_started : (pF lo co c g w s k).lookup ("started" : PySem.Str) = some (.ref s) := by kernel_rfl
theorem pF_codes : (pF lo co c g w s k).lookup ("codes" : PySem.Str) = some (.ref k) := by kernel_rfl
theorem pF_put_locks {y : Nat} : putF "locks" (natV y) (pF lo co c g w s k) = pF y co c g w s k := by kernel_rfl
theorem pF_put_conditions {y : Nat} : putF "conditions" (natV y) (pF lo co c g w s k) = pF lo y c g w s k := by kernel_rfl
theorem vF_kind : (vF i h).lookup ("kind" : PySem.Str) = some (.int i) := by kernel_rfl
theorem vF_held : (vF i h).lookup ("held" : PySem.Str) = some h := by kernel_rfl
end
end CT

namespace CT
open PySem PySem.Spec PyProof.Rows L2
section
variable (K : PySem.W.Frag)
abbrev cThr : Addr := He.ga K "Thread"
abbrev cLck : Addr := He.ga K "Lock"
abbrev cMach : Addr := He.ga K "Machine"
abbrev cProg : Addr := He.ga K "Program"
abbrev cVal : Addr := He.ga K "Value"
/-- a thread, as it lies in its part -/
structure ThAt (h : Hp) (a cr : Addr) (wt : Nat) (x : Thr) (dx rg pr : Addr) : Prop where
  ins : h a = some (.ins (cThr K) dx (tF cr wt x rg pr))
  regs : h rg = some (.lst (x.regs.map V.int))
  out : h pr = some (.lst (x.out.map V.int))
  ne : rg ≠ pr
def FreedV (H : Hp) : V → Option R7285d.Spec.Time → Prop
  | .non, none => True
  | .ref t, some c => H t = some (.tup [natV c.1, natV c.2])
  | _, _ => False
/-- a lock; what it was let go at is told while nobody has it -/
structure LkAt (H h : Hp) (a : Addr) (k : Lck) (dx od : Addr) (fv : V) (f : Option R7285d.Spec.Time) : Prop where
  ins : h a = some (.ins (cLck K) dx (lF k.holder od fv))
  ord : h od = some (.lst (k.order.map natV))
  frd : FreedV H fv f
  tell : k.holder = none → f = k.freed
structure MAt (H : Hp) (S : MP → Hp) (L : Lay) (p : Prog) (m : Mach) (n : Nat) : Prop where
  main : ∃ dx, S .main L.a = some (.ins (cMach K) dx (mF L n))
  tl : S .main L.tl = some (.lst (L.ta.map V.ref))
  ll : S .main L.ll = some (.lst (L.la.map V.ref))
  ql : S .main L.ql = some (.lst (L.qa.map V.ref))
  cont : S .cont L.ct = some (.lst (m.shared.map V.int))
  tlen : L.ta.length = m.threads.length
  llen : L.la.length = m.locks.length
  qlen : L.qa.length = m.queues.length
  th : ∀ (k : Nat) (x : Thr), m.threads[k]? = some x → ∃ a cr d dx rg pr, L.ta[k]? = some a ∧ L.crs[k]? = some cr ∧ p.threads[k]? = some d ∧ ThAt K (S (.thr k)) a cr d.weight x dx rg pr
  lk : ∀ (k : Nat) (y : Lck), m.locks[k]? = some y → ∃ a dx od fv f, L.la[k]? = some a ∧ LkAt K H (S (.lock k)) a y dx od fv f
  qu : ∀ (k : Nat) (q : List Nat), m.queues[k]? = some q → ∃ a, L.qa[k]? = some a ∧ S (.que k) a = some (.lst (q.map natV))
/-- a machine in the heap -/
structure MW (H : Hp) (S : MP → Hp) (L : Lay) (p : Prog) (m : Mach) (n : Nat) : Prop where
  fam : Fam H S
  at_ : MAt K H S L p m n
end
variable {K : PySem.W.Frag} {H H' : Hp} {S : MP → Hp} {L : Lay} {p : Prog} {m : Mach} {n : Nat}
theorem ThAt.up {h h' : Hp} {a cr : Addr} {wt : Nat} {x : Thr} {dx rg pr : Addr} (T : ThAt K h a cr wt x dx rg pr) (e : Same h h') : ThAt K h' a cr wt x dx rg pr := ⟨e _ _ T.ins, e _ _ T.regs, e _ _ T.out, T.ne⟩
theorem Fam.same_in {ι : Type} {H : Hp} {S : ι → Hp} (F : Fam H S) (q : ι) : Same (S q) H := fun b o e => F.sub q b o e
theorem FreedV.up {H H' : Hp} (e : ∀ b xs, H b = some (.tup xs) → H' b = some (.tup xs)) : ∀ {v : V} {f : Option R7285d.Spec.Time}, FreedV H v f → FreedV H' v f
  | .non, none, _ => trivial
  | .ref t, some c, h => e _ _ h
theorem LkAt.tups {H H' h : Hp} {a : Addr} {k : Lck} {dx od : Addr} {fv : V} {f : Option R7285d.Spec.Time} (T : LkAt K H h a k dx od fv f) (e : ∀ b xs, H b = some (.tup xs) → H' b = some (.tup xs)) : LkAt K H' h a k dx od fv f :=
  ⟨T.ins, T.ord, T.frd.up e, T.tell⟩
theorem MAt.tups (M : MAt K H S L p m n) (e : ∀ b xs, H b = some (.tup xs) → H' b = some (.tup xs)) : MAt K H' S L p m n where
  main := M.main
  tl := M.tl
  ll := M.ll
  ql := M.ql
  cont := M.cont
  tlen := M.tlen
  llen := M.llen
  qlen := M.qlen
  th := M.th
  lk := fun k y h => by
    obtain ⟨a, dx, od, fv, f, e1, T⟩ := M.lk k y h
    exact ⟨a, dx, od, fv, f, e1, T.tups e⟩
  qu := M.qu
theorem MW.same (W : MW K H S L p m n) (e : Same H H') : MW K H' S L p m n := ⟨W.fam.same e, W.at_.tups fun b xs h => e b _ h⟩
/-- what is seen of a machine -/
theorem MW.mach (W : MW K H S L p m n) : ∃ dx, H L.a = some (.ins (cMach K) dx (mF L n)) := by
  obtain ⟨dx, e⟩ := W.at_.main
  exact ⟨dx, W.fam.sub _ _ _ e⟩
theorem MW.tl (W : MW K H S L p m n) : H L.tl = some (.lst (L.ta.map V.ref)) := W.fam.sub _ _ _ W.at_.tl
theorem MW.ll (W : MW K H S L p m n) : H L.ll = some (.lst (L.la.map V.ref)) := W.fam.sub _ _ _ W.at_.ll
theorem MW.ql (W : MW K H S L p m n) : H L.ql = some (.lst (L.qa.map V.ref)) := W.fam.sub _ _ _ W.at_.ql
theorem MW.ct (W : MW K H S L p m n) : H L.ct = some (.lst (m.shared.map V.int)) := W.fam.sub _ _ _ W.at_.cont
theorem MW.thread (W : MW K H S L p m n) {k : Nat} {x : Thr} (h : m.threads[k]? = some x) : ∃ a cr d dx rg pr, L.ta[k]? = some a ∧ L.crs[k]? = some cr ∧ p.threads[k]? = some d ∧ ThAt K (S (.thr k)) a cr d.weight x dx rg pr ∧ ThAt K H a cr d.weight x dx rg pr := by
  obtain ⟨a, cr, d, dx, rg, pr, e1, e2, e3, T⟩ := W.at_.th k x h
  exact ⟨a, cr, d, dx, rg, pr, e1, e2, e3, T, T.up (W.fam.same_in _)⟩
theorem MW.lock (W : MW K H S L p m n) {k : Nat} {y : Lck} (h : m.locks[k]? = some y) : ∃ a dx od fv f, L.la[k]? = some a ∧ LkAt K H (S (.lock k)) a y dx od fv f ∧ H a = some (.ins (cLck K) dx (lF y.holder od fv)) ∧ H od = some (.lst (y.order.map natV)) := by
  obtain ⟨a, dx, od, fv, f, e1, T⟩ := W.at_.lk k y h
  exact ⟨a, dx, od, fv, f, e1, T, W.fam.sub _ _ _ T.ins, W.fam.sub _ _ _ T.ord⟩
theorem MW.queue (W : MW K H S L p m n) {k : Nat} {q : List Nat} (h : m.queues[k]? = some q) : ∃ a, L.qa[k]? = some a ∧ S (.que k) a = some (.lst (q.map natV)) ∧ H a = some (.lst (q.map natV)) := by
  obtain ⟨a, e1, e2⟩ := W.at_.qu k q h
  exact ⟨a, e1, e2, W.fam.sub _ _ _ e2⟩
/-- a machine has gone on -/
def Goes (K : PySem.W.Frag) (L : Lay) (p : Prog) (H : Hp) (S : MP → Hp) (H' : Hp) (m' : Mach) (n' : Nat) : Prop := ∃ S', MW K H' S' L p m' n' ∧ Stp H S H' S'
theorem Goes.refl (W : MW K H S L p m n) : Goes K L p H S H m n := ⟨S, W, Stp.refl H S⟩
theorem Goes.then {H1 H2 : Hp} {m1 m2 : Mach} {n1 n2 : Nat} (a : Goes K L p H S H1 m1 n1) (b : ∀ S1, MW K H1 S1 L p m1 n1 → Stp H S H1 S1 → Goes K L p H1 S1 H2 m2 n2) : Goes K L p H S H2 m2 n2 := by
  obtain ⟨S1, W1, s1⟩ := a
  obtain ⟨S2, W2, s2⟩ := b S1 W1 s1
  exact ⟨S2, W2, s1.trans s2⟩
theorem Goes.eq {m1 m2 : Mach} {n1 : Nat} (a : Goes K L p H S H' m1 n1) (e : m1 = m2) : Goes K L p H S H' m2 n1 := e ▸ a

/-! ### the steps -/
theorem ins_tup {C dx : Addr} {fs : List (PySem.Str × V)} : ∀ xs, HO.ins C dx fs ≠ .tup xs := fun _ h => nomatch h
theorem lst_tup {ys : List V} : ∀ xs, HO.lst ys ≠ .tup xs := fun _ h => nomatch h
theorem lst_ins {C dx : Addr} {fs : List (PySem.Str × V)} {ys : List V} : HO.lst ys ≠ HO.ins C dx fs := fun h => nomatch h
/-- thread k's part is another one -/
theorem MAt.thr (M : MAt K H S L p m n) {k : Nat} {x x' : Thr} (hx : m.threads[k]? = some x) {h : Hp} {a cr : Addr} {d : R7285d.Spec.ThreadD} {dx rg pr : Addr} (e1 : L.ta[k]? = some a) (e2 : L.crs[k]? = some cr) (e3 : p.threads[k]? = some d) (T : ThAt K h a cr d.weight x' dx rg pr) :
    MAt K H (putS S (.thr k) h) L p (setT m k x') n where
  main := M.main
  tl := M.tl
  ll := M.ll
  ql := M.ql
  cont := M.cont
  tlen := by simp [setT, M.tlen]
  llen := M.llen
  qlen := M.qlen
  th := fun j y hy => by
    by_cases z : j = k
    · subst z
      rw [setT_get hx] at hy
      cases hy
      rw [putS_same]
      exact ⟨a, cr, d, dx, rg, pr, e1, e2, e3, T⟩
    · rw [setT_ne z] at hy
      rw [putS_ne (fun q => z (MP.thr.inj q))]
      exact M.th j y hy
  lk := fun j y hy => M.lk j y hy
  qu := fun j y hy => M.qu j y hy
theorem tups_wr {h : Hp} {b : Addr} {o0 o : HO} (e : h b = some o0) (t : ∀ xs, o0 ≠ .tup xs) : ∀ c xs, h c = some (.tup xs) → upd h b o c = some (.tup xs) := fun c xs q => by
  rw [upd_ne (ne_of q e (fun z => t xs z.symm))]
  exact q
/-- a field of a thread -/
theorem MW.thrIns (W : MW K H S L p m n) {k : Nat} {x x' : Thr} (hx : m.threads[k]? = some x) {a cr : Addr} {d : R7285d.Spec.ThreadD} {dx rg pr : Addr} (e1 : L.ta[k]? = some a) (e2 : L.crs[k]? = some cr) (e3 : p.threads[k]? = some d) (T : ThAt K (S (.thr k)) a cr d.weight x dx rg pr)
    (er : x'.regs = x.regs) (eo : x'.out = x.out) : Goes K L p H S (upd H a (.ins (cThr K) dx (tF cr d.weight x' rg pr))) (setT m k x') n := by
  have T' : ThAt K (upd (S (.thr k)) a (.ins (cThr K) dx (tF cr d.weight x' rg pr))) a cr d.weight x' dx rg pr :=
    ⟨upd_same, by rw [upd_ne (ne_of T.regs T.ins lst_ins), er]; exact T.regs, by rw [upd_ne (ne_of T.out T.ins lst_ins), eo]; exact T.out, T.ne⟩
  exact ⟨_, ⟨W.fam.wr T.ins _, (W.at_.tups (tups_wr (W.fam.sub _ _ _ T.ins) ins_tup)).thr hx e1 e2 e3 T'⟩, Stp.wr W.fam T.ins ins_tup _⟩
theorem MW.thrRegs (W : MW K H S L p m n) {k : Nat} {x : Thr} (hx : m.threads[k]? = some x) {a cr : Addr} {d : R7285d.Spec.ThreadD} {dx rg pr : Addr} (e1 : L.ta[k]? = some a) (e2 : L.crs[k]? = some cr) (e3 : p.threads[k]? = some d) (T : ThAt K (S (.thr k)) a cr d.weight x dx rg pr)
    (zs : List Int) : Goes K L p H S (upd H rg (.lst (zs.map V.int))) (setT m k { x with regs := zs }) n := by
  have T' : ThAt K (upd (S (.thr k)) rg (.lst (zs.map V.int))) a cr d.weight { x with regs := zs } dx rg pr :=
    ⟨by rw [upd_ne (ne_of T.ins T.regs (fun z => lst_ins z.symm))]; exact T.ins, upd_same, by rw [upd_ne (Ne.symm T.ne)]; exact T.out, T.ne⟩
  exact ⟨_, ⟨W.fam.wr T.regs _, (W.at_.tups (tups_wr (W.fam.sub _ _ _ T.regs) lst_tup)).thr hx e1 e2 e3 T'⟩, Stp.wr W.fam T.regs lst_tup _⟩
theorem MW.thrOut (W : MW K H S L p m n) {k : Nat} {x : Thr} (hx : m.threads[k]? = some x) {a cr : Addr} {d : R7285d.Spec.ThreadD} {dx rg pr : Addr} (e1 : L.ta[k]? = some a) (e2 : L.crs[k]? = some cr) (e3 : p.threads[k]? = some d) (T : ThAt K (S (.thr k)) a cr d.weight x dx rg pr)
    (zs : List Int) : Goes K L p H S (upd H pr (.lst (zs.map V.int))) (setT m k { x with out := zs }) n := by
  have T' : ThAt K (upd (S (.thr k)) pr (.lst (zs.map V.int))) a cr d.weight { x with out := zs } dx rg pr :=
    ⟨by rw [upd_ne (ne_of T.ins T.out (fun z => lst_ins z.symm))]; exact T.ins, by rw [upd_ne T.ne]; exact T.regs, upd_same, T.ne⟩
  exact ⟨_, ⟨W.fam.wr T.out _, (W.at_.tups (tups_wr (W.fam.sub _ _ _ T.out) lst_tup)).thr hx e1 e2 e3 T'⟩, Stp.wr W.fam T.out lst_tup _⟩
theorem MW.contSet (W : MW K H S L p m n) (zs : List Int) : Goes K L p H S (upd H L.ct (.lst (zs.map V.int))) { m with shared := zs } n := by
  have M := W.at_.tups (tups_wr (o := .lst (zs.map V.int)) W.ct lst_tup)
  refine ⟨_, ⟨W.fam.wr W.at_.cont _, ?_⟩, Stp.wr W.fam W.at_.cont lst_tup _⟩
  exact ⟨M.main, M.tl, M.ll, M.ql, by rw [putS_same]; exact upd_same, M.tlen, M.llen, M.qlen, M.th, M.lk, M.qu⟩
theorem MW.count (W : MW K H S L p m n) {dx : Addr} (e : H L.a = some (.ins (cMach K) dx (mF L n))) (n' : Nat) : Goes K L p H S (upd H L.a (.ins (cMach K) dx (mF L n'))) m n' := by
  obtain ⟨dx', e'⟩ := W.at_.main
  have q := W.fam.sub _ _ _ e'
  rw [e] at q
  cases q
  have M := W.at_.tups (tups_wr (o := .ins (cMach K) dx (mF L n')) e ins_tup)
  refine ⟨_, ⟨W.fam.wr e' _, ?_⟩, Stp.wr W.fam e' ins_tup _⟩
  refine ⟨⟨dx, by rw [putS_same]; exact upd_same⟩, ?_, ?_, ?_, M.cont, M.tlen, M.llen, M.qlen, M.th, M.lk, M.qu⟩
  · rw [putS_same, upd_ne (ne_of M.tl e' lst_ins)]; exact M.tl
  · rw [putS_same, upd_ne (ne_of M.ll e' lst_ins)]; exact M.ll
  · rw [putS_same, upd_ne (ne_of M.ql e' lst_ins)]; exact M.ql
def setL (m : Mach) (l : Nat) (k : Lck) : Mach := { m with locks := m.locks.set l k }
theorem set_get {α : Type} {l : List α} {i : Nat} {a b : α} (h : l[i]? = some a) : (l.set i b)[i]? = some b := by
  have hl : i < l.length := (List.getElem?_eq_some_iff.mp h).1
  simp [hl]
theorem set_other {α : Type} {l : List α} {i j : Nat} {b : α} (h : j ≠ i) : (l.set i b)[j]? = l[j]? := by
  simp [Ne.symm h]
theorem MAt.lock (M : MAt K H S L p m n) {l : Nat} {y y' : Lck} (hy : m.locks[l]? = some y) {h : Hp} {a dx od : Addr} {fv : V} {f : Option R7285d.Spec.Time} (e1 : L.la[l]? = some a) (T : LkAt K H h a y' dx od fv f) : MAt K H (putS S (.lock l) h) L p (setL m l y') n where
  main := M.main
  tl := M.tl
  ll := M.ll
  ql := M.ql
  cont := M.cont
  tlen := M.tlen
  llen := by simp [setL, M.llen]
  qlen := M.qlen
  th := fun j y hy => M.th j y hy
  lk := fun j z hz => by
    by_cases e : j = l
    · subst e
      have hz' : (m.locks.set j y')[j]? = some z := hz
      rw [set_get hy] at hz'
      cases hz'
      rw [putS_same]
      exact ⟨a, dx, od, fv, f, e1, T⟩
    · have hz' : (m.locks.set l y')[j]? = some z := hz
      rw [set_other e] at hz'
      rw [putS_ne (fun q => e (MP.lock.inj q))]
      exact M.lk j z hz'
  qu := fun j y hy => M.qu j y hy
/-- a lock's fields -/
theorem MW.lockIns (W : MW K H S L p m n) {l : Nat} {y y' : Lck} (hy : m.locks[l]? = some y) {a dx od : Addr} {fv fv' : V} {f f' : Option R7285d.Spec.Time} (e1 : L.la[l]? = some a) (T : LkAt K H (S (.lock l)) a y dx od fv f) (eo : y'.order = y.order)
    (ef : FreedV H fv' f') (et : y'.holder = none → f' = y'.freed) : Goes K L p H S (upd H a (.ins (cLck K) dx (lF y'.holder od fv'))) (setL m l y') n := by
  have tp := tups_wr (o := .ins (cLck K) dx (lF y'.holder od fv')) (W.fam.sub _ _ _ T.ins) ins_tup
  have T' : LkAt K (upd H a (.ins (cLck K) dx (lF y'.holder od fv'))) (upd (S (.lock l)) a (.ins (cLck K) dx (lF y'.holder od fv'))) a y' dx od fv' f' :=
    ⟨upd_same, by rw [upd_ne (ne_of T.ord T.ins lst_ins), eo]; exact T.ord, ef.up tp, et⟩
  exact ⟨_, ⟨W.fam.wr T.ins _, (W.at_.tups tp).lock hy e1 T'⟩, Stp.wr W.fam T.ins ins_tup _⟩
theorem MW.lockOrd (W : MW K H S L p m n) {l : Nat} {y : Lck} (hy : m.locks[l]? = some y) {a dx od : Addr} {fv : V} {f : Option R7285d.Spec.Time} (e1 : L.la[l]? = some a) (T : LkAt K H (S (.lock l)) a y dx od fv f) (zs : List Nat) :
    Goes K L p H S (upd H od (.lst (zs.map natV))) (setL m l { y with order := zs }) n := by
  have tp := tups_wr (o := .lst (zs.map natV)) (W.fam.sub _ _ _ T.ord) lst_tup
  have T' : LkAt K (upd H od (.lst (zs.map natV))) (upd (S (.lock l)) od (.lst (zs.map natV))) a { y with order := zs } dx od fv f :=
    ⟨by rw [upd_ne (ne_of T.ins T.ord (fun z => lst_ins z.symm))]; exact T.ins, upd_same, T.frd.up tp, T.tell⟩
  exact ⟨_, ⟨W.fam.wr T.ord _, (W.at_.tups tp).lock hy e1 T'⟩, Stp.wr W.fam T.ord lst_tup _⟩
theorem MW.queSet (W : MW K H S L p m n) {c : Nat} {q : List Nat} (hq : m.queues[c]? = some q) {a : Addr} (e1 : L.qa[c]? = some a) (T : S (.que c) a = some (.lst (q.map natV))) (zs : List Nat) :
    Goes K L p H S (upd H a (.lst (zs.map natV))) { m with queues := m.queues.set c zs } n := by
  have M := W.at_.tups (tups_wr (o := .lst (zs.map natV)) (W.fam.sub _ _ _ T) lst_tup)
  refine ⟨_, ⟨W.fam.wr T _, ?_⟩, Stp.wr W.fam T lst_tup _⟩
  refine ⟨M.main, M.tl, M.ll, M.ql, M.cont, M.tlen, M.llen, by simp [M.qlen], M.th, M.lk, fun j z hz => ?_⟩
  by_cases e : j = c
  · subst e
    rw [set_get hq] at hz
    cases hz
    rw [putS_same]
    exact ⟨a, e1, upd_same⟩
  · rw [set_other e] at hz
    rw [putS_ne (fun q => e (MP.que.inj q))]
    exact M.qu j z hz
end CT

namespace CT
open PySem PySem.Spec PyProof.Rows L2
/-! ### defs and classes by their promises -/
/-- a def of the module that keeps a promise -/
structure Cal (CX : CXT) (P : Program) (w : World) (K : PySem.W.Frag) (mg : PySem.Str → Option Value) (base : Heap) (k : Nat) (x : PySem.Str) (sp : Sp) : Prop where
  ex : ∃ (fd : FuncData) (ps : List PySem.Str), FnOk P w K mg base CX k (He.ga K x) fd ps sp ∧ mg x = some (.ref (He.ga K x)) ∧ PySem.W.keepIn K (.ref (He.ga K x)) = true ∧ Binds K fd ps []
/-- a class of the module, made by a call: its promise speaks of the new instance -/
structure New (P : Program) (w : World) (K : PySem.W.Frag) (mg : PySem.Str → Option Value) (base : Heap) (k : Nat) (x : PySem.Str) (sp : Sp) : Prop where
  ex : ∃ (f : Addr) (fd : FuncData) (ps : List PySem.Str) (si : Sp), Mk K (He.ga K x) f ∧ FnOk P w K mg base CX0 k f fd ps si ∧ mg x = some (.ref (He.ga K x)) ∧ Binds K fd ps [] ∧
    ∀ vs H Q, sp vs H Q E0 → ∀ a dx, H a = none → H dx = none → dx ≠ a → si (.ref a :: vs) (upd (upd H dx (.own a)) a (.ins (He.ga K x) dx [])) (fun v H2 => v = .non ∧ Q (.ref a) H2) E0
section
variable {P : Program} {w : World} {K : PySem.W.Frag} {mg : PySem.Str → Option Value} {base : Heap} {CX : CXT}
theorem cal_mk {d : He.DefD} {x : PySem.Str} {N ps : List PySem.Str} {k : Nat} {sp : Sp} (hd : ∃ fd, FunD K d.name d.qual d.params d.body d.scope [] [] (He.ga K x) fd) (hm : mg x = some (.ref (He.ga K x))) (S : FnScope N ps d.scope)
    (hb : ∀ (kV doc pm : Value) (an : Option Addr) (cdv ct : Value) (us : List Value), us.length = ps.length → bindArgs (PySem.W.fnOf d.name d.qual d.params d.body d.scope .none kV doc pm an cdv ct) ⟨us, []⟩ = pure (ps.zip us))
    (len : ∀ vs H Q E, sp vs H Q E → vs.length = ps.length)
    (hbody : ∀ (f : Addr) (cdv : Value) (A : Around) (outer : List Env) (s : Shared) (H : Hp) (vs : List V) (Q : VK) (E : XK), Room k (A.deeper (envOfC d.qual d.scope s.heap.objs.size f cdv)) → sp vs H Q E →
      ∃ t, PSs (cxOf CX P w K mg base N d.qual d.scope f cdv A outer s H E) d.body t ∧ t { nx := fun _ H' => Q .non H', rt := Q } (start N vs) H) : Cal CX P w K mg base (k + 1) x sp := by
  obtain ⟨fd, F⟩ := hd
  exact ⟨fd, ps, F.ok S len fun cdv A outer s H vs Q E hr h => hbody _ cdv A outer s H vs Q E hr h, hm, F.kp, F.bindsN hb⟩
theorem new_mk {d : He.DefD} {x : PySem.Str} {f : Addr} {N ps : List PySem.Str} {k : Nat} {sp si : Sp} (hd : ∃ fd, FunD K d.name d.qual d.params d.body d.scope [] [] f fd) (M : Mk K (He.ga K x) f) (hm : mg x = some (.ref (He.ga K x))) (S : FnScope N ps d.scope)
    (hb : ∀ (kV doc pm : Value) (an : Option Addr) (cdv ct : Value) (us : List Value), us.length = ps.length → bindArgs (PySem.W.fnOf d.name d.qual d.params d.body d.scope .none kV doc pm an cdv ct) ⟨us, []⟩ = pure (ps.zip us))
    (len : ∀ vs H Q E, si vs H Q E → vs.length = ps.length)
    (hs : ∀ vs H Q, sp vs H Q E0 → ∀ a dx, H a = none → H dx = none → dx ≠ a → si (.ref a :: vs) (upd (upd H dx (.own a)) a (.ins (He.ga K x) dx [])) (fun v H2 => v = .non ∧ Q (.ref a) H2) E0)
    (hbody : ∀ (f : Addr) (cdv : Value) (A : Around) (outer : List Env) (s : Shared) (H : Hp) (vs : List V) (Q : VK) (E : XK), Room k (A.deeper (envOfC d.qual d.scope s.heap.objs.size f cdv)) → si vs H Q E →
      ∃ t, PSs (cxOf CX0 P w K mg base N d.qual d.scope f cdv A outer s H E).nox d.body t ∧ t { nx := fun _ H' => Q .non H', rt := Q } (start N vs) H) : New P w K mg base (k + 1) x sp := by
  obtain ⟨fd, F⟩ := hd
  refine ⟨f, fd, ps, si, M, F.ok S len fun cdv A outer s H vs Q E hr h => ?_, hm, F.bindsN hb, hs⟩
  obtain ⟨t, d, q⟩ := hbody _ cdv A outer s H vs Q E hr h
  exact ⟨t, d.nox, q⟩
end
section
variable {X : Cx} {CX : CXT} {j k : Nat} {E : L2.St → XK} {x : PySem.Str} {sp : Sp} {p pos : Pos} {e : Expr} {es : List Expr} {t : TA}
theorem pe_cal (c : Cal CX X.prog X.w X.K X.mg X.base k x sp) (hr : Room j X.A) (hk : k ≤ j) (hg : Gl X x) (hx : ∀ σ, PassesAt CX X σ (E σ)) (ha : PA X (e :: es) t)
    (hdb : (x == ("__debug__" : PySem.Str)) = false := by decide) (he : starEach (e :: es) X.env = (false, eval e X.env) :: starEach es X.env := by rfl) (hpl : (backTo pos (starEach es X.env)).any (·.1) = false := by rfl) :
    PE X (.Call (.Name x p) (e :: es) [] pos) (tCallS sp E t) := by
  obtain ⟨fd, ps, F, hm, hkp, hb⟩ := c.ex
  exact pe_callS F (hr.mono hk) hg hm hkp hb hx ha hdb he hpl
theorem passC {X : Cx} : ∀ σ, PassesAt CX0 X σ E0 := fun _ _ _ _ _ _ _ h => h.elim
/-- a class made -/
def tNew (sp : Sp) (t : TA) : TE := fun σ H Q => t σ H fun vs H1 => sp vs H1 Q E0
theorem pe_new (c : New X.prog X.w X.K X.mg X.base k x sp) (hr : Room j X.A) (hk : k + 1 ≤ j) (hg : Gl X x) (ha : PA X (e :: es) t)
    (hdb : (x == ("__debug__" : PySem.Str)) = false := by decide) (he : starEach (e :: es) X.env = (false, eval e X.env) :: starEach es X.env := by rfl) (hpl : (backTo pos (starEach es X.env)).any (·.1) = false := by rfl) :
    PE X (.Call (.Name x p) (e :: es) [] pos) (tNew sp t) := by
  obtain ⟨f, fd, ps, si, M, F, hm, hb, hs⟩ := c.ex
  refine ⟨fun pins s σ H Q I h => wpAny_Call_Name_kw (ld_glob I hg hm ?_ hdb)⟩
  have args := thn (ha.run pos pins s σ H _ I h) fun us s1 z => z
  refine PySem.W.callWith_K (h₀ := X.base) I.ok.mod.kin M.kp (thn args fun us s1 z => ?_) he hpl
  obtain ⟨vs, H1, I1, r, q⟩ := z
  refine ⟨I1.kIn, run_make (dvs := []) M F (hr.mono hk) hb .nil (pass0 (X := X)) I1 r fun a dx na nd ne => ?_⟩
  rw [List.append_nil]
  exact hs vs H1 Q q a dx na nd ne
theorem pe_new0 (c : New X.prog X.w X.K X.mg X.base k x sp) (hr : Room j X.A) (hk : k + 1 ≤ j) (hg : Gl X x)
    (hdb : (x == ("__debug__" : PySem.Str)) = false := by decide) : PE X (.Call (.Name x p) [] [] pos) (tNew sp tNil) := by
  obtain ⟨f, fd, ps, si, M, F, hm, hb, hs⟩ := c.ex
  have q := pe_make0 (p := p) (pos := pos) M F (hr.mono hk) hg hm hb .nil (pass0 (X := X)) hdb
  exact ⟨fun pins s σ H Q I h => q.run pins s σ H Q I fun a dx na nd ne => hs [] H Q h a dx na nd ne⟩
/-- a whole number of the module; an object of the module -/
theorem pe_gi {i : Int} (h : ∃ t, X.mg x = some (.int i t)) (hg : Gl X x) (hd : (x == ("__debug__" : PySem.Str)) = false := by decide) : PE X (.Name x pos) (tC (.int i)) := by
  obtain ⟨t, h⟩ := h
  exact pe_glob hg h ⟨t, rfl⟩ hd
theorem pe_gr {a : Addr} (h : X.mg x = some (.ref a)) (hg : Gl X x) (hd : (x == ("__debug__" : PySem.Str)) = false := by decide) : PE X (.Name x pos) (tC (.ref a)) := pe_glob hg h rfl hd
end
/-! ### the same in a comprehension: the written part as a letter of its own -/
section
variable {X : Cx} {K : PySem.W.Frag}
theorem pe_fldK {e : Expr} {f : PySem.Str} {pos : Pos} {ta : TE} (hK : X.K = K) (he : PE X e ta) (hb : attributeBase e f X.env (eval e X.env) = eval e X.env) : PE X (.Attribute e f pos) (tFld K ta f) := by
  subst hK
  exact pe_fld he hb
theorem pg_tupK {es : List Expr} {k : Nat} {t : TGs} {n : Nat} {pos : Pos} (hK : X.K = K) (hc : X.calm = true) (h : PGs X es t)
    (hn : (assignEach es X.env).length = n := by rfl) (hst : (assignEach es X.env).findIdx? (·.1) = none := by rfl) : PG X (.Tuple es k pos) (gTup K n t) := by
  subst hK
  exact pg_tup hc h hn hst
def rListOf (K : PySem.W.Frag) : List V → Hp → VK → Prop := fun xs H Q => ∃ p ys, xs = [.ref p] ∧ (SqL K H p ys ∨ SqT K H p ys) ∧ ∀ l, H l = none → Q (.ref l) (upd H l (.lst ys))
theorem call_list_ofK (hK : X.K = K) : CallR X (.type "list") (rListOf K) := by
  subst hK
  exact call_list_of
end
/-! ### readings in short -/
theorem if_t {c : Bool} {A B : Prop} (hc : c = true) (h : A) : if c = true then A else B := by
  rw [if_pos hc]
  exact h
theorem if_f {c : Bool} {A B : Prop} (hc : c = false) (h : B) : if c = true then A else B := by
  rw [hc]
  exact h
section
variable {K : PySem.W.Frag} {H : Hp} {a C dx : Addr} {fs : List (PySem.Str × V)} {f : PySem.Str} {v : V}
theorem r_fld {Q : V → Prop} (h : H a = some (.ins C dx fs)) (c : Cls K C) (n : NoAttr K C f) (l : fs.lookup f = some v) (q : Q v) :
    ∃ a' C' dx' fs' v', V.ref a = .ref a' ∧ H a' = some (.ins C' dx' fs') ∧ Cls K C' ∧ NoAttr K C' f ∧ fs'.lookup f = some v' ∧ Q v' := ⟨a, C, dx, fs, v, rfl, h, c, n, l, q⟩
theorem r_set {Q : Hp → Prop} {y : V} {fs' : List (PySem.Str × V)} (h : H a = some (.ins C dx fs)) (c : Cls K C) (n : NoAttr K C f) (hl : fs.length < 1000) (e : putF f y fs = fs') (q : Q (upd H a (.ins C dx fs'))) :
    ∃ a' C' dx' fs', V.ref a = .ref a' ∧ H a' = some (.ins C' dx' fs') ∧ Cls K C' ∧ NoAttr K C' f ∧ fs'.length < 1000 ∧ Q (upd H a' (.ins C' dx' (putF f y fs'))) := ⟨a, C, dx, fs, rfl, h, c, n, hl, by rw [e]; exact q⟩
theorem r_at {Q : V → Prop} {xs : List V} {i : Nat} (h : SqL K H a xs) (e : xs[i]? = some v) (q : Q v) : ∃ p ys j u, V.ref a = .ref p ∧ natV i = .int j ∧ SqL K H p ys ∧ atI ys j = some u ∧ Q u := ⟨a, xs, _, v, rfl, rfl, h, atI_nat e, q⟩
theorem r_atT {Q : V → Prop} {xs : List V} {i : Nat} (h : SqT K H a xs) (e : xs[i]? = some v) (q : Q v) : ∃ p ys j u, V.ref a = .ref p ∧ natV i = .int j ∧ SqT K H p ys ∧ atI ys j = some u ∧ Q u := ⟨a, xs, _, v, rfl, rfl, h, atI_nat e, q⟩
end
end CT

namespace CT
open PySem PySem.Spec PyProof.Rows L2
def sp1 (f : V → Hp → VK → XK → Prop) : Sp := fun vs H Q E => ∃ x, vs = [x] ∧ f x H Q E
def sp2 (f : V → V → Hp → VK → XK → Prop) : Sp := fun vs H Q E => ∃ x y, vs = [x, y] ∧ f x y H Q E
def sp3 (f : V → V → V → Hp → VK → XK → Prop) : Sp := fun vs H Q E => ∃ x y z, vs = [x, y, z] ∧ f x y z H Q E
def sp4 (f : V → V → V → V → Hp → VK → XK → Prop) : Sp := fun vs H Q E => ∃ x y z u, vs = [x, y, z, u] ∧ f x y z u H Q E
theorem sp1_len {f vs H Q E} (h : sp1 f vs H Q E) : vs.length = 1 := by
  obtain ⟨_, rfl, _⟩ := h
  rfl
theorem sp2_len {f vs H Q E} (h : sp2 f vs H Q E) : vs.length = 2 := by
  obtain ⟨_, _, rfl, _⟩ := h
  rfl
theorem sp3_len {f vs H Q E} (h : sp3 f vs H Q E) : vs.length = 3 := by
  obtain ⟨_, _, _, rfl, _⟩ := h
  rfl
theorem sp4_len {f vs H Q E} (h : sp4 f vs H Q E) : vs.length = 4 := by
  obtain ⟨_, _, _, _, rfl, _⟩ := h
  rfl
def sp0 (f : Hp → VK → XK → Prop) : Sp := fun vs H Q E => vs = [] ∧ f H Q E
theorem sp0_len {f vs H Q E} (h : sp0 f vs H Q E) : vs.length = 0 := by
  obtain ⟨rfl, _⟩ := h
  rfl
theorem mapRef {l : List Addr} {i : Nat} {a : Addr} (e : l[i]? = some a) : (l.map V.ref)[i]? = some (.ref a) := by
  rw [List.getElem?_map, e]
  rfl
theorem mapInt {l : List Int} {i : Nat} {a : Int} (e : l[i]? = some a) : (l.map V.int)[i]? = some (.int a) := by
  rw [List.getElem?_map, e]
  rfl
theorem lineOf {n : Nat} (h : n ≤ 1000) : n ≤ sizeLine := Nat.le_of_lt (small1000 h)
/-- a new part of the heap -/
structure NewPart (H H' T : Hp) : Prop where
  same : Same H H'
  sub : Same T H'
  new : ∀ b, T b ≠ none → H b = none
def emp : Hp := fun _ => none
/-- of H', what stands at these addresses -/
def only (H : Hp) (l : List Addr) : Hp := fun b => if b ∈ l then H b else none
theorem only_in {H : Hp} {l : List Addr} {b : Addr} (h : b ∈ l) : only H l b = H b := if_pos h
theorem NewPart.of {H H' : Hp} (e : Same H H') {l : List Addr} (n : ∀ b ∈ l, H b = none) : NewPart H H' (only H' l) where
  same := e
  sub := fun b o h => by
    unfold only at h
    split at h
    · exact h
    · cases h
  new := fun b h => by
    by_cases c : b ∈ l
    · exact n b c
    · exact absurd (if_neg c) h
theorem Fam.add {ι : Type} [DecidableEq ι] {H H' T : Hp} {S : ι → Hp} (F : Fam H S) (N : NewPart H H' T) (q : ι) : Fam H' (putS S q T) where
  sub := fun r b o h => by
    by_cases z : r = q
    · subst z
      rw [putS_same] at h
      exact N.sub b o h
    · rw [putS_ne z] at h
      exact N.same b o (F.sub r b o h)
  dis := fun r t b x y => by
    have key : ∀ r, putS S q T r b ≠ none → r ≠ q → H b ≠ none := fun r x z => by
      rw [putS_ne z] at x
      rcases none_or (S r b) with e | ⟨o, e⟩
      · exact absurd e x
      · exact some_ne (F.sub r b o e)
    by_cases z : r = q
    · by_cases u : t = q
      · rw [z, u]
      · have k := key t y u
        subst z
        rw [putS_same] at x
        exact absurd (N.new b x) k
    · by_cases u : t = q
      · have k := key r x z
        subst u
        rw [putS_same] at y
        exact absurd (N.new b y) k
      · rw [putS_ne z] at x
        rw [putS_ne u] at y
        exact F.dis r t b x y
/-- an attribute set, the heap behind it by its facts -/
theorem r_put {K : PySem.W.Frag} {H : Hp} {a C dx : Addr} {fs : List (PySem.Str × V)} {f : PySem.Str} {y : V} {Q : Hp → Prop} (n : Nat) (h : H a = some (.ins C dx fs)) (hl : fs.length ≤ n) (hn : n < 1000) (c : Cls K C) (na : NoAttr K C f)
    (q : ∀ H1 : Hp, H1 a = some (.ins C dx (putF f y fs)) → (putF f y fs).length ≤ n + 1 → (∀ b, b ≠ a → H1 b = H b) → Q H1) :
    ∃ a' C' dx' fs', V.ref a = .ref a' ∧ H a' = some (.ins C' dx' fs') ∧ Cls K C' ∧ NoAttr K C' f ∧ fs'.length < 1000 ∧ Q (upd H a' (.ins C' dx' (putF f y fs'))) :=
  ⟨a, C, dx, fs, rfl, h, c, na, Nat.lt_of_le_of_lt hl hn, q _ upd_same (Nat.le_trans (length_putF f y fs) (Nat.succ_le_succ hl)) fun b hb => upd_ne hb⟩
theorem made_none {H : Hp} {a dx C b : Addr} (na : H a = none) (nd : H dx = none) (h : upd (upd H dx (.own a)) a (.ins C dx []) b = none) : H b = none := by
  by_cases e : b = a
  · subst e; exact na
  · rw [upd_ne e] at h
    by_cases e2 : b = dx
    · subst e2; exact nd
    · rw [upd_ne e2] at h; exact h
theorem made_same {H H' : Hp} {a dx C : Addr} (na : H a = none) (nd : H dx = none) (k : ∀ b o, upd (upd H dx (.own a)) a (.ins C dx []) b = some o → b ≠ a → H' b = some o) : Same H H' := fun b o h =>
  k b o (by rw [upd_ne (ne_of_none h na), upd_ne (ne_of_none h nd)]; exact h) (ne_of_none h na)
section
variable {P : Program} {w : World} {K : PySem.W.Frag} {mg : PySem.Str → Option Value} {base : Heap}
def spTimeOf (K : PySem.W.Frag) : Sp := sp2 fun x y H Q _ => ∃ S L p m n t z, x = .ref L.a ∧ y = natV t ∧ MW K H S L p m n ∧ m.threads[t]? = some z ∧ ∀ c, H c = none → Q (.ref c) (upd H c (.tup [natV z.clock, natV t]))
abbrev n_time_of : List PySem.Str := ["machine", "number"]
theorem sc_time_of : FnScope n_time_of ["machine", "number"] d_time_of.scope := ⟨rfl, rfl, rfl, by decide +kernel, rfl, by decide +kernel, by decide +kernel⟩
theorem c_time_of (T : Tx w K mg) : Cal (CX0) P w K mg base 1 "time_of" (spTimeOf K) := by
  refine cal_mk T.fd_time_of T.g_time_of sc_time_of (fun _ _ _ _ _ _ us hl => match us, hl with | [_, _], _ => rfl) (fun _ _ _ _ h => sp2_len h) (fun f cdv A outer s H vs Q E hr h => ?_)
  obtain ⟨_, _, rfl, S, L, p, m, n, t, z, rfl, rfl, W, hz, q⟩ := h
  refine ⟨_, PSs.nox ((pss_one (ps_ret (pe_tup (pa_cons (pe_fld (pe_ix ix_list (pe_fld (pv 0) rfl) (pv 1) (fun _ _ => rfl)) rfl) (pa_cons (pv 1) pa_nil)))))), ?_⟩
  obtain ⟨dM, hM⟩ := W.mach
  obtain ⟨a, cr, d, dx, rg, pr, e1, e2, e3, TS, TH⟩ := W.thread hz
  exact ⟨_, rfl, r_fld hM T.c_Machine T.n_Machine_threads mF_threads ⟨_, rfl, r_at (SqL.of W.tl) (mapRef e1) (r_fld TH.ins T.c_Thread T.n_Thread_clock tF_clock ⟨_, rfl, lineOf (by show 2 ≤ 1000; decide), q⟩)⟩⟩
def spWrapped : Sp := sp1 fun x H Q _ => ∃ i : Int, x = .int i ∧ Q (.int (R7285d.Spec.wrap i)) H
abbrev n_wrapped : List PySem.Str := ["number"]
theorem sc_wrapped : FnScope n_wrapped ["number"] d_wrapped.scope := ⟨rfl, rfl, rfl, by decide +kernel, rfl, by decide +kernel, by decide +kernel⟩
theorem c_wrapped (T : Tx w K mg) : Cal (CX0) P w K mg base 1 "wrapped" (spWrapped) := by
  refine cal_mk T.fd_wrapped T.g_wrapped sc_wrapped (fun _ _ _ _ _ _ us hl => match us, hl with | [_], _ => rfl) (fun _ _ _ _ h => sp1_len h) (fun f cdv A outer s H vs Q E hr h => ?_)
  obtain ⟨_, rfl, i, rfl, q⟩ := h
  refine ⟨_, PSs.nox ((pss_one (ps_ret (pe_op op_sub (pe_op op_mod (pe_op op_add (pv 0) (pe_gi T.i_HALF_machines rfl)) (pe_gi T.i_WHOLE rfl)) (pe_gi T.i_HALF_machines rfl))))), ?_⟩
  exact ⟨_, rfl, _, _, rfl, rfl, _, _, rfl, rfl, (by show (0 : Int) < 4294967296; decide), _, _, rfl, rfl, q⟩
/-- a thread that is made -/
def begun (md : R7285d.Spec.Mode) : Thr := ⟨md, 0, [0, 0, 0, 0], [], none, 0, 0⟩
def spThread (K : PySem.W.Frag) : Sp := sp3 fun x y z H Q _ => ∃ cr wt md, x = .ref cr ∧ y = natV wt ∧ z = .int (modeN md) ∧ ∀ H' T a dx rg pr, NewPart H H' T → ThAt K T a cr wt (begun md) dx rg pr → Q (.ref a) H'
def siThread (K : PySem.W.Frag) : Sp := sp4 fun s x y z H Q _ => ∃ a dx cr wt md, s = .ref a ∧ x = .ref cr ∧ y = natV wt ∧ z = .int (modeN md) ∧ H a = some (.ins (cThr K) dx []) ∧
  ∀ H' rg pr, (∀ b o, H b = some o → b ≠ a → H' b = some o) → H rg = none → H pr = none → rg ≠ pr → H' a = some (.ins (cThr K) dx (tF cr wt (begun md) rg pr)) → H' rg = some (.lst ([0, 0, 0, 0].map V.int)) → H' pr = some (.lst []) → Q .non H'
abbrev n_init_Thread : List PySem.Str := ["self", "code", "weight", "mode"]
theorem sc_init_Thread : FnScope n_init_Thread ["self", "code", "weight", "mode"] d_init_Thread.scope := ⟨rfl, rfl, rfl, by decide +kernel, rfl, by decide +kernel, by decide +kernel⟩
theorem new_Thread (T : Tx w K mg) : New P w K mg base 1 "Thread" (spThread K) := by
  refine new_mk (si := siThread K) T.fd_init_Thread T.m_Thread T.g_Thread sc_init_Thread (fun _ _ _ _ _ _ us hl => match us, hl with | [_, _, _, _], _ => rfl) (fun _ _ _ _ h => sp4_len h) ?hs (fun f cdv A outer s H vs Q E hr h => ?_)
  rotate_left
  obtain ⟨_, _, _, _, rfl, a, dx, cr, wt, md, rfl, rfl, rfl, rfl, hA, q⟩ := h
  refine ⟨_, (pss_cons (ps_fld (pv 0) (pv 1) rfl)
      (pss_cons (ps_fld (pv 0) (pv 2) rfl)
      (pss_cons (ps_fld (pv 0) (pv 3) rfl)
      (pss_cons (ps_fld (pv 0) pe_int rfl)
      (pss_cons (ps_fld (pv 0) (pe_lst (pa_cons pe_int (pa_cons pe_int (pa_cons pe_int (pa_cons pe_int pa_nil))))) rfl)
      (pss_cons (ps_fld (pv 0) (pe_lst pa_nil) rfl)
      (pss_cons (ps_fld (pv 0) pe_non rfl)
      (pss_cons (ps_fld (pv 0) pe_int rfl)
      (pss_one (ps_fld (pv 0) pe_int rfl)))))))))), ?_⟩
  refine ⟨_, rfl, _, rfl, r_put 0 hA (Nat.le_refl _) (by decide) T.c_Thread T.n_Thread_code fun H1 h1 l1 k1 => ?_⟩
  refine ⟨_, rfl, _, rfl, r_put 1 h1 l1 (by decide) T.c_Thread T.n_Thread_weight fun H2 h2 l2 k2 => ?_⟩
  refine ⟨_, rfl, _, rfl, r_put 2 h2 l2 (by decide) T.c_Thread T.n_Thread_mode fun H3 h3 l3 k3 => ?_⟩
  refine ⟨_, rfl, r_put 3 h3 l3 (by decide) T.c_Thread T.n_Thread_place fun H4 h4 l4 k4 => ?_⟩
  refine ⟨lineOf (by show 4 ≤ 1000; decide), fun rg nr => ⟨_, rfl, r_put 4 ((upd_ne (ne_of_none h4 nr)).trans h4) l4 (by decide) T.c_Thread T.n_Thread_registers fun H5 h5 l5 k5 => ?_⟩⟩
  refine ⟨lineOf (by show 0 ≤ 1000; decide), fun pr np => ⟨_, rfl, r_put 5 ((upd_ne (ne_of_none h5 np)).trans h5) l5 (by decide) T.c_Thread T.n_Thread_printed fun H6 h6 l6 k6 => ?_⟩⟩
  refine ⟨_, rfl, r_put 6 h6 l6 (by decide) T.c_Thread T.n_Thread_wanted fun H7 h7 l7 k7 => ?_⟩
  refine ⟨_, rfl, r_put 7 h7 l7 (by decide) T.c_Thread T.n_Thread_clock fun H8 h8 l8 k8 => ?_⟩
  refine ⟨_, rfl, r_put 8 h8 l8 (by decide) T.c_Thread T.n_Thread_events fun H9 h9 l9 k9 => ?_⟩
  have ra : rg ≠ a := fun e => by rw [e, h4] at nr; cases nr
  have h5r : H5 rg = some (.lst ([0, 0, 0, 0].map V.int)) := (k5 rg ra).trans upd_same
  have pa : pr ≠ a := fun e => by rw [e, h5] at np; cases np
  have rp : rg ≠ pr := fun e => by rw [← e, h5r] at np; cases np
  have hr0 : H rg = none := by rw [← k1 rg ra, ← k2 rg ra, ← k3 rg ra, ← k4 rg ra]; exact nr
  have hp0 : H pr = none := by
    rw [← k1 pr pa, ← k2 pr pa, ← k3 pr pa, ← k4 pr pa]
    have := k5 pr pa
    rw [upd_ne (Ne.symm rp), np] at this
    exact this.symm
  refine q H9 rg pr (fun b o e hb => ?_) hr0 hp0 rp (h9.trans (congrArg (fun z => some (HO.ins (cThr K) dx z)) (by kernel_rfl))) ?_ ?_
  · rw [k9 b hb, k8 b hb, k7 b hb, k6 b hb, upd_ne (fun e2 => by rw [e2, hp0] at e; cases e), k5 b hb, upd_ne (fun e2 => by rw [e2, hr0] at e; cases e), k4 b hb, k3 b hb, k2 b hb, k1 b hb]
    exact e
  · rw [k9 rg ra, k8 rg ra, k7 rg ra, k6 rg ra, upd_ne rp]
    exact h5r
  · rw [k9 pr pa, k8 pr pa, k7 pr pa, k6 pr pa, upd_same]
  · rintro vs H Q ⟨_, _, _, rfl, cr, wt, md, rfl, rfl, rfl, q⟩ a dx na nd ne
    refine ⟨_, _, _, _, rfl, a, dx, cr, wt, md, rfl, rfl, rfl, rfl, upd_same, fun H' rg pr k nr np hne h1 h2 h3 => ⟨rfl, ?_⟩⟩
    have N : NewPart H H' (only H' [a, rg, pr]) := NewPart.of (made_same na nd k) (by
      intro b hb
      simp only [List.mem_cons, List.not_mem_nil, or_false] at hb
      rcases hb with rfl | rfl | rfl
      · exact na
      · exact made_none na nd nr
      · exact made_none na nd np)
    exact q H' _ a dx rg pr N ⟨by rw [only_in (by simp)]; exact h1, by rw [only_in (by simp)]; exact h2, by rw [only_in (by simp)]; exact h3, hne⟩
end
end CT


namespace CT
open PySem PySem.Spec PyProof.Rows L2
theorem r_putE {K : PySem.W.Frag} {H : Hp} {a C dx : Addr} {fs fs' : List (PySem.Str × V)} {f : PySem.Str} {y : V} {Q : Hp → Prop} (h : H a = some (.ins C dx fs)) (hl : fs.length < 1000) (c : Cls K C) (na : NoAttr K C f) (e : putF f y fs = fs')
    (q : ∀ H1 : Hp, H1 a = some (.ins C dx fs') → (∀ b, b ≠ a → H1 b = H b) → Q H1) :
    ∃ a' C' dx' fs', V.ref a = .ref a' ∧ H a' = some (.ins C' dx' fs') ∧ Cls K C' ∧ NoAttr K C' f ∧ fs'.length < 1000 ∧ Q (upd H a' (.ins C' dx' (putF f y fs'))) :=
  ⟨a, C, dx, fs, rfl, h, c, na, hl, q _ (by rw [e]; exact upd_same) fun b hb => upd_ne hb⟩
theorem same_put {H H1 H2 : Hp} {a : Addr} (na : H a = none) (s : Same H H1) (k : ∀ b, b ≠ a → H2 b = H1 b) : Same H H2 := fun b o h => (k b (ne_of_none h na)).trans (s b o h)
theorem tF_put_registers {cr rg pr y : Addr} {wt : Nat} {x : Thr} : putF "registers" (.ref y) (tF cr wt x rg pr) = tF cr wt x y pr := by kernel_rfl
theorem tF_put_printed {cr rg pr y : Addr} {wt : Nat} {x : Thr} : putF "printed" (.ref y) (tF cr wt x rg pr) = tF cr wt x rg y := by kernel_rfl
theorem tF_len {cr rg pr : Addr} {wt : Nat} {x : Thr} : (tF cr wt x rg pr).length < 1000 := by show 9 < 1000; decide
theorem lF_len {hd : Option Nat} {od : Addr} {fv : V} : (lF hd od fv).length < 1000 := by show 3 < 1000; decide
section
variable {P : Program} {w : World} {K : PySem.W.Frag} {mg : PySem.Str → Option Value} {base : Heap}
def spLock (K : PySem.W.Frag) : Sp := sp0 fun H Q _ => ∀ H' T a dx od, NewPart H H' T → LkAt K H' T a ⟨none, none, []⟩ dx od .non none → Q (.ref a) H'
def siLock (K : PySem.W.Frag) : Sp := sp1 fun s H Q _ => ∃ a dx, s = .ref a ∧ H a = some (.ins (cLck K) dx []) ∧ ∀ H' od, (∀ b o, H b = some o → b ≠ a → H' b = some o) → H od = none → H' a = some (.ins (cLck K) dx (lF none od .non)) → H' od = some (.lst []) → Q .non H'
abbrev n_init_Lock : List PySem.Str := ["self"]
theorem sc_init_Lock : FnScope n_init_Lock ["self"] d_init_Lock.scope := ⟨rfl, rfl, rfl, by decide +kernel, rfl, by decide +kernel, by decide +kernel⟩
theorem new_Lock (T : Tx w K mg) : New P w K mg base 1 "Lock" (spLock K) := by
  refine new_mk (si := siLock K) T.fd_init_Lock T.m_Lock T.g_Lock sc_init_Lock (fun _ _ _ _ _ _ us hl => match us, hl with | [_], _ => rfl) (fun _ _ _ _ h => sp1_len h) ?hs (fun f cdv A outer s H vs Q E hr h => ?_)
  rotate_left
  obtain ⟨_, rfl, a, dx, rfl, hA, q⟩ := h
  refine ⟨_, (pss_cons (ps_fld (pv 0) pe_non rfl)
      (pss_cons (ps_fld (pv 0) (pe_lst pa_nil) rfl)
      (pss_one (ps_fld (pv 0) pe_non rfl)))), ?_⟩
  refine ⟨_, rfl, r_put 0 hA (Nat.le_refl _) (by decide) T.c_Lock T.n_Lock_holder fun H1 h1 l1 k1 => ?_⟩
  refine ⟨lineOf (by show 0 ≤ 1000; decide), fun od no => ⟨_, rfl, r_put 1 (same_new no _ _ h1) l1 (by decide) T.c_Lock T.n_Lock_order fun H3 h3 l3 k3 => ?_⟩⟩
  refine ⟨_, rfl, r_put 2 h3 l3 (by decide) T.c_Lock T.n_Lock_freed fun H4 h4 l4 k4 => ?_⟩
  have oa : od ≠ a := fun e => by rw [e, h1] at no; cases no
  have n0 : H od = none := by rw [← k1 od oa]; exact no
  refine q H4 od (fun b o e hb => ?_) n0 (h4.trans (congrArg (fun z => some (HO.ins (cLck K) dx z)) (by kernel_rfl))) ?_
  · rw [k4 b hb, k3 b hb, upd_ne (ne_of_none e n0), k1 b hb]
    exact e
  · rw [k4 od oa, k3 od oa]
    exact upd_same
  · rintro vs H Q ⟨rfl, q⟩ a dx na nd ne
    refine ⟨_, rfl, a, dx, rfl, upd_same, fun H' od k no h1 h2 => ⟨rfl, ?_⟩⟩
    have N : NewPart H H' (only H' [a, od]) := NewPart.of (made_same na nd k) (by
      intro b hb
      simp only [List.mem_cons, List.not_mem_nil, or_false] at hb
      rcases hb with rfl | rfl
      · exact na
      · exact made_none na nd no)
    exact q H' _ a dx od N ⟨by rw [only_in (by simp)]; exact h1, by rw [only_in (by simp)]; exact h2, trivial, fun _ => rfl⟩
def spThreadCopy (K : PySem.W.Frag) : Sp := sp1 fun v H Q _ => ∃ a cr wt x dx rg pr, v = .ref a ∧ ThAt K H a cr wt x dx rg pr ∧ ∀ H' T a' dx' rg' pr', NewPart H H' T → ThAt K T a' cr wt x dx' rg' pr' → Q (.ref a') H'
abbrev n_thread_copy : List PySem.Str := ["thread", "found"]
theorem sc_thread_copy : FnScope n_thread_copy ["thread"] d_thread_copy.scope := ⟨rfl, rfl, rfl, by decide +kernel, rfl, by decide +kernel, by decide +kernel⟩
theorem c_thread_copy (T : Tx w K mg) : Cal (CX0) P w K mg base 4 "thread_copy" (spThreadCopy K) := by
  refine cal_mk T.fd_thread_copy T.g_thread_copy sc_thread_copy (fun _ _ _ _ _ _ us hl => match us, hl with | [_], _ => rfl) (fun _ _ _ _ h => sp1_len h) (fun f cdv A outer s H vs Q E hr h => ?_)
  obtain ⟨_, rfl, a0, cr, wt, x, dx0, rg0, pr0, rfl, T0, q⟩ := h
  refine ⟨_, PSs.nox ((pss_cons (ps_set (i := 1) sc_thread_copy.nd rfl (Or.inl rfl) (pe_new (new_Thread T) hr (by decide) rfl (pa_cons (pe_fld (pv 0) rfl) (pa_cons (pe_fld (pv 0) rfl) (pa_cons (pe_fld (pv 0) rfl) pa_nil)))))
      (pss_cons (ps_fld (pv 1) (pe_fld (pv 0) rfl) rfl)
      (pss_cons (ps_fld (pv 1) (pe_callTy call_list_of rfl T.f_list (by decide +kernel) (pa_cons (pe_fld (pv 0) rfl) pa_nil)) rfl)
      (pss_cons (ps_fld (pv 1) (pe_callTy call_list_of rfl T.f_list (by decide +kernel) (pa_cons (pe_fld (pv 0) rfl) pa_nil)) rfl)
      (pss_cons (ps_fld (pv 1) (pe_fld (pv 0) rfl) rfl)
      (pss_cons (ps_fld (pv 1) (pe_fld (pv 0) rfl) rfl)
      (pss_cons (ps_fld (pv 1) (pe_fld (pv 0) rfl) rfl)
      (pss_one (ps_ret (pv 1))))))))))), ?_⟩
  refine ⟨_, rfl, r_fld T0.ins T.c_Thread T.n_Thread_code tF_code ⟨_, rfl, r_fld T0.ins T.c_Thread T.n_Thread_weight tF_weight ⟨_, rfl, r_fld T0.ins T.c_Thread T.n_Thread_mode tF_mode ⟨_, _, _, rfl, cr, wt, x.mode, rfl, rfl, rfl, fun H1 T1 a dx rg pr N1 A1 => ?_⟩⟩⟩⟩
  have na : H a = none := N1.new a (some_ne A1.ins)
  have nrg : H rg = none := N1.new rg (some_ne A1.regs)
  have npr : H pr = none := N1.new pr (some_ne A1.out)
  have s1 := N1.same
  have i1 := N1.sub _ _ A1.ins
  refine ⟨_, rfl, r_fld (s1 _ _ T0.ins) T.c_Thread T.n_Thread_place tF_place ⟨_, rfl, r_putE i1 tF_len T.c_Thread T.n_Thread_place tF_put_place fun H2 i2 k2 => ?_⟩⟩
  have s2 := same_put na s1 k2
  refine ⟨_, rfl, r_fld (s2 _ _ T0.ins) T.c_Thread T.n_Thread_registers tF_registers ⟨rg0, _, rfl, .inl (SqL.of (s2 _ _ T0.regs)), fun rg2 n3 => ⟨_, rfl, r_putE (same_new n3 _ _ i2) tF_len T.c_Thread T.n_Thread_registers tF_put_registers fun H4 i4 k4 => ?_⟩⟩⟩
  have s23 := s2.trans (same_new (o := .lst (x.regs.map V.int)) n3)
  have s4 := same_put na s23 k4
  refine ⟨_, rfl, r_fld (s4 _ _ T0.ins) T.c_Thread T.n_Thread_printed tF_printed ⟨pr0, _, rfl, .inl (SqL.of (s4 _ _ T0.out)), fun pr2 n5 => ⟨_, rfl, r_putE (same_new n5 _ _ i4) tF_len T.c_Thread T.n_Thread_printed tF_put_printed fun H6 i6 k6 => ?_⟩⟩⟩
  have s6 := same_put na (s4.trans (same_new n5)) k6
  refine ⟨_, rfl, r_fld (s6 _ _ T0.ins) T.c_Thread T.n_Thread_wanted tF_wanted ⟨_, rfl, r_putE i6 tF_len T.c_Thread T.n_Thread_wanted tF_put_wanted fun H7 i7 k7 => ?_⟩⟩
  have s7 := same_put na s6 k7
  refine ⟨_, rfl, r_fld (s7 _ _ T0.ins) T.c_Thread T.n_Thread_clock tF_clock ⟨_, rfl, r_putE i7 tF_len T.c_Thread T.n_Thread_clock tF_put_clock fun H8 i8 k8 => ?_⟩⟩
  have s8 := same_put na s7 k8
  refine ⟨_, rfl, r_fld (s8 _ _ T0.ins) T.c_Thread T.n_Thread_events tF_events ⟨_, rfl, r_putE i8 tF_len T.c_Thread T.n_Thread_events tF_put_events fun H9 i9 k9 => ?_⟩⟩
  have s9 := same_put na s8 k9
  have ra : rg2 ≠ a := fun e => by rw [e, i2] at n3; cases n3
  have pa : pr2 ≠ a := fun e => by rw [e, i4] at n5; cases n5
  have h4r : H4 rg2 = some (.lst (x.regs.map V.int)) := (k4 rg2 ra).trans upd_same
  have rp : rg2 ≠ pr2 := fun e => by rw [← e, h4r] at n5; cases n5
  have n3' : H rg2 = none := s2.free n3
  have n5' : H pr2 = none := s4.free n5
  refine ⟨_, rfl, q H9 _ a dx rg2 pr2 (NewPart.of s9 (l := [a, rg2, pr2]) ?_) ⟨?_, ?_, ?_, rp⟩⟩
  · intro b hb
    simp only [List.mem_cons, List.not_mem_nil, or_false] at hb
    rcases hb with rfl | rfl | rfl <;> assumption
  · rw [only_in (by simp)]; exact i9
  · rw [only_in (by simp), k9 _ ra, k8 _ ra, k7 _ ra, k6 _ ra, upd_ne rp]; exact h4r
  · rw [only_in (by simp), k9 _ pa, k8 _ pa, k7 _ pa, k6 _ pa]
    exact upd_same
def spLockCopy (K : PySem.W.Frag) : Sp := sp1 fun v H Q _ => ∃ h a y dx od fv f, v = .ref a ∧ Same h H ∧ LkAt K H h a y dx od fv f ∧ ∀ H' T a' dx' od', NewPart H H' T → LkAt K H' T a' y dx' od' fv f → Q (.ref a') H'
abbrev n_lock_copy : List PySem.Str := ["lock", "found"]
theorem sc_lock_copy : FnScope n_lock_copy ["lock"] d_lock_copy.scope := ⟨rfl, rfl, rfl, by decide +kernel, rfl, by decide +kernel, by decide +kernel⟩
theorem c_lock_copy (T : Tx w K mg) : Cal (CX0) P w K mg base 4 "lock_copy" (spLockCopy K) := by
  refine cal_mk T.fd_lock_copy T.g_lock_copy sc_lock_copy (fun _ _ _ _ _ _ us hl => match us, hl with | [_], _ => rfl) (fun _ _ _ _ h => sp1_len h) (fun f cdv A outer s H vs Q E hr h => ?_)
  obtain ⟨_, rfl, h0, a0, y, dx0, od0, fv, f, rfl, s0, T0, q⟩ := h
  refine ⟨_, PSs.nox ((pss_cons (ps_set (i := 1) sc_lock_copy.nd rfl (Or.inl rfl) (pe_new0 (new_Lock T) hr (by decide) rfl))
      (pss_cons (ps_fld (pv 1) (pe_fld (pv 0) rfl) rfl)
      (pss_cons (ps_fld (pv 1) (pe_callTy call_list_of rfl T.f_list (by decide +kernel) (pa_cons (pe_fld (pv 0) rfl) pa_nil)) rfl)
      (pss_cons (ps_fld (pv 1) (pe_fld (pv 0) rfl) rfl)
      (pss_one (ps_ret (pv 1)))))))), ?_⟩
  refine ⟨rfl, fun H1 T1 a dx od N1 A1 => ?_⟩
  have na : H a = none := N1.new a (some_ne A1.ins)
  have s1 := N1.same
  have i1 := N1.sub _ _ A1.ins
  have o0 := s0 _ _ T0.ins
  refine ⟨_, rfl, r_fld (s1 _ _ o0) T.c_Lock T.n_Lock_holder lF_holder ⟨_, rfl, r_putE i1 lF_len T.c_Lock T.n_Lock_holder lF_put_holder fun H2 i2 k2 => ?_⟩⟩
  have s2 := same_put na s1 k2
  refine ⟨_, rfl, r_fld (s2 _ _ o0) T.c_Lock T.n_Lock_order lF_order ⟨od0, _, rfl, .inl (SqL.of (s2 _ _ (s0 _ _ T0.ord))), fun od2 n3 => ⟨_, rfl, r_putE (same_new n3 _ _ i2) lF_len T.c_Lock T.n_Lock_order lF_put_order fun H4 i4 k4 => ?_⟩⟩⟩
  have s4 := same_put na (s2.trans (same_new n3)) k4
  refine ⟨_, rfl, r_fld (s4 _ _ o0) T.c_Lock T.n_Lock_freed lF_freed ⟨_, rfl, r_putE i4 lF_len T.c_Lock T.n_Lock_freed lF_put_freed fun H5 i5 k5 => ?_⟩⟩
  have s5 := same_put na s4 k5
  have oa : od2 ≠ a := fun e => by rw [e, i2] at n3; cases n3
  refine ⟨_, rfl, q H5 _ a dx od2 (NewPart.of s5 (l := [a, od2]) ?_) ⟨?_, ?_, T0.frd.up fun b xs e => s5 _ _ e, T0.tell⟩⟩
  · intro b hb
    simp only [List.mem_cons, List.not_mem_nil, or_false] at hb
    rcases hb with rfl | rfl
    · exact na
    · exact s2.free n3
  · rw [only_in (by simp)]; exact i5
  · rw [only_in (by simp), k5 _ oa, k4 _ oa]; exact upd_same
end
end CT


namespace CT
open PySem PySem.Spec PyProof.Rows L2
/-! ### min of a list of pairs -/
abbrev ltP (c d : Int × Int) : Prop := c.1 < d.1 ∨ (c.1 = d.1 ∧ c.2 < d.2)
theorem lt_pair {c d : Int × Int} : PySem.W.DatumOrd.lt c d = true ↔ ltP c d := by
  show (if c.1 = d.1 then decide (c.2 < d.2) else decide (c.1 < d.1)) = true ↔ _
  by_cases e : c.1 = d.1
  · rw [if_pos e, decide_eq_true_eq]
    unfold ltP
    constructor
    · exact fun h => .inr ⟨e, h⟩
    · rintro (h | h)
      · omega
      · exact h.2
  · rw [if_neg e, decide_eq_true_eq]
    unfold ltP
    constructor
    · exact fun h => .inl h
    · rintro (h | h)
      · exact h
      · exact absurd h.1 e
theorem minOf_spec : ∀ (xs : List (Int × Int)) (x : Int × Int), PySem.W.minOf x xs ∈ x :: xs ∧ ∀ y ∈ x :: xs, ¬ ltP y (PySem.W.minOf x xs)
  | [], x => ⟨by simp [PySem.W.minOf], fun y hy => by
      simp only [List.mem_singleton] at hy
      subst hy
      show ¬ ltP y y
      unfold ltP
      omega⟩
  | z :: xs, x => by
    have e : PySem.W.minOf x (z :: xs) = PySem.W.minOf (if PySem.W.DatumOrd.lt z x = true then z else x) xs := rfl
    rw [e]
    obtain ⟨h1, h2⟩ := minOf_spec xs (if PySem.W.DatumOrd.lt z x = true then z else x)
    generalize PySem.W.minOf (if PySem.W.DatumOrd.lt z x = true then z else x) xs = m at h1 h2
    by_cases c : PySem.W.DatumOrd.lt z x = true
    · rw [if_pos c] at h1 h2
      have c' := lt_pair.mp c
      refine ⟨by simp only [List.mem_cons] at h1 ⊢; rcases h1 with h1 | h1 <;> simp [h1], fun y hy => ?_⟩
      simp only [List.mem_cons] at hy
      rcases hy with rfl | rfl | hy
      · have := h2 z (List.mem_cons_self ..)
        unfold ltP at *
        omega
      · exact h2 y (List.mem_cons_self ..)
      · exact h2 y (List.mem_cons_of_mem _ hy)
    · rw [if_neg c] at h1 h2
      have c' : ¬ ltP z x := fun q => c (lt_pair.mpr q)
      refine ⟨by simp only [List.mem_cons] at h1 ⊢; rcases h1 with h1 | h1 <;> simp [h1], fun y hy => ?_⟩
      simp only [List.mem_cons] at hy
      rcases hy with rfl | rfl | hy
      · exact h2 y (List.mem_cons_self ..)
      · have := h2 x (List.mem_cons_self ..)
        unfold ltP at *
        omega
      · exact h2 y (List.mem_cons_of_mem _ hy)
theorem vals_refs : ∀ {bs : List Addr} {us : List Value}, Vals (bs.map V.ref) us → us = bs.map Value.ref
  | [], _, .nil => rfl
  | b :: bs, _, .cons r t => by
    rw [vals_refs t]
    cases r
    rfl
def rMinT (K : PySem.W.Frag) : List V → Hp → VK → Prop := fun vs H Q => ∃ (a : Addr) (bs : List Addr) (cs : List (Int × Int)), vs = [.ref a] ∧ SqL K H a (bs.map V.ref) ∧ bs.length = cs.length ∧ cs ≠ [] ∧
  (∀ (i : Nat) (b : Addr) (c : Int × Int), bs[i]? = some b → cs[i]? = some c → H b = some (.tup [.int c.1, .int c.2])) ∧ ∀ (i : Nat) (b : Addr) (c : Int × Int), bs[i]? = some b → cs[i]? = some c → (∀ d ∈ cs, ¬ ltP d c) → Q (.ref b) H
theorem cr_minT {X : Cx} (hc : X.calm = true) (hu : X.A.units + 64 < cLine) : CallR X (.builtin "min") (rMinT X.K) := by
  intro pins s σ H xs us Q I r q
  obtain ⟨a, bs, cs, rfl, hl, hlen, hne, ht, q⟩ := q
  obtain rfl := Vals.ref1 r
  obtain ⟨its, rv, pl, hz⟩ := I.list hl
  have ei := vals_refs rv
  subst ei
  have hold : ∀ (bs : List Addr) (cs : List (Int × Int)), bs.length = cs.length → (∀ (i : Nat) (b : Addr) (c : Int × Int), bs[i]? = some b → cs[i]? = some c → H b = some (.tup [.int c.1, .int c.2])) → PySem.W.HoldAll s.heap (bs.map Value.ref) cs := by
    intro bs
    induction bs with
    | nil =>
      intro cs h _
      cases cs with
      | nil => exact PySem.W.HoldAll.nil
      | cons c cs => cases h
    | cons b bs ih =>
      intro cs h k
      cases cs with
      | nil => cases h
      | cons c cs =>
        obtain ⟨ts, r1, it, _⟩ := I.tuple (SqT.of (k 0 b c rfl rfl))
        obtain ⟨t, u, rfl⟩ := Vals.int2 r1
        exact PySem.W.HoldAll.cons (PySem.W.holds_pair it (PySem.W.holds_int _ _) (PySem.W.holds_int _ _)) (ih cs (by simpa using h) fun i b' c' e1 e2 => k (i + 1) b' c' (by simpa using e1) (by simpa using e2))
  cases cs with
  | nil => exact absurd rfl hne
  | cons c0 cs =>
    have hA := hold bs (c0 :: cs) hlen ht
    have z10 : PySem.W.Datum.depth (Int × Int) ≤ 10 := by decide
    have hdep : X.A.units + 1 + PySem.W.Datum.depth (Int × Int) < cLine := by omega
    refine PySem.W.min_list_datum (x := c0) (xs := cs) (I.ok.hd hc) pl.isList hA hdep fun i v h' tk hv hh kept => ?_
    have hv' : (bs.map Value.ref)[i]? = some v := by simpa using hv
    rw [List.getElem?_map] at hv'
    cases hb : bs[i]? with
    | none => rw [hb] at hv'; cases hv'
    | some b =>
      rw [hb] at hv'
      cases hv'
      have hi : i < (c0 :: cs).length := by rw [← hlen]; exact (List.getElem?_eq_some_iff.mp hb).1
      have hc' : (c0 :: cs)[i]? = some (c0 :: cs)[i] := by simp [hi]
      generalize (c0 :: cs)[i] = c at hc'
      have I2 : Inv X pins σ H { s with heap := h', toks := tk } := I.kept kept
      obtain ⟨ts, r1, it, _⟩ := I2.tuple (SqT.of (ht i b c hb hc'))
      obtain ⟨t, u, rfl⟩ := Vals.int2 r1
      obtain ⟨l, x, y, e, hT, h1, h2⟩ := PySem.W.pair_of_holds hh
      cases e
      obtain ⟨o, g1, _, n1, d1⟩ := it
      obtain ⟨o', g2, _, n2, d2⟩ := hT
      rw [g1] at g2
      cases g2
      rw [d1] at d2
      have e3 : (#[Value.int c.1 t, Value.int c.2 u] : Array Value) = #[x, y] := by
        have := Data.seq.inj d2
        exact this.1
      obtain ⟨t1, e4⟩ := PySem.W.int_of_holds h1
      obtain ⟨t2, e5⟩ := PySem.W.int_of_holds h2
      subst e4 e5
      have e6 : c.1 = (PySem.W.minOf c0 cs).1 ∧ c.2 = (PySem.W.minOf c0 cs).2 := by
        have := congrArg Array.toList e3
        simp only [List.cons.injEq, Value.int.injEq] at this
        exact ⟨this.1.1, this.2.1.1⟩
      obtain ⟨_, least⟩ := minOf_spec cs c0
      refine ⟨.ref b, H, I2, rfl, q i b c hb hc' fun d hd z => ?_⟩
      refine least d hd ?_
      unfold ltP at *
      rw [← e6.1, ← e6.2]
      exact z
end CT


namespace CT
open PySem PySem.Spec PyProof.Rows L2
/-! ### programs in the heap -/
def insName : Ins → PySem.Str
  | .const _ _ => "const"
  | .add _ _ _ => "add"
  | .sub _ _ _ => "sub"
  | .less _ _ _ => "less"
  | .jump _ _ => "jump"
  | .load _ _ => "load"
  | .store _ _ => "store"
  | .print _ => "print"
  | .lock _ => "lock"
  | .unlock _ => "unlock"
  | .wait _ _ => "wait"
  | .wake _ => "wake"
  | .start _ => "start"
  | .join _ => "join"
def insNums : Ins → List Int
  | .const r z => [r, z]
  | .add r a b => [r, a, b]
  | .sub r a b => [r, a, b]
  | .less r a b => [r, a, b]
  | .jump r k => [r, k]
  | .load r v => [r, v]
  | .store v r => [v, r]
  | .print r => [r]
  | .lock l => [l]
  | .unlock l => [l]
  | .wait c l => [c, l]
  | .wake c => [c]
  | .start u => [u]
  | .join u => [u]
/-- an event as it lies in the heap: its name, its numbers -/
def EvAt (H : Hp) (a : Addr) (nm : PySem.Str) (ns : List Int) : Prop := ∃ nl, H a = some (.tup [.str nm, .ref nl]) ∧ H nl = some (.lst (ns.map V.int))
structure PAt (K : PySem.W.Frag) (F : Hp) (pa : Addr) (p : Prog) (crs : List Addr) : Prop where
  ex : ∃ dx c g w s k, F pa = some (.ins (cProg K) dx (pF p.locks p.conditions c g w s k)) ∧ F c = some (.lst (p.shared.map fun d => V.int d.value)) ∧ F g = some (.lst (p.shared.map fun d => natV d.guard)) ∧
    F w = some (.lst (p.threads.map fun d => natV d.weight)) ∧ F s = some (.lst (p.threads.map fun d => V.bl d.started)) ∧ F k = some (.lst (crs.map V.ref))
  len : crs.length = p.threads.length
  code : ∀ (t : Nat) (d : R7285d.Spec.ThreadD) (cr : Addr), p.threads[t]? = some d → crs[t]? = some cr → ∃ is : List Addr, F cr = some (.lst (is.map V.ref)) ∧ is.length = d.code.length ∧
    ∀ (j : Nat) (i : Ins) (a : Addr), d.code[j]? = some i → is[j]? = some a → EvAt F a (insName i) (insNums i)
theorem EvAt.up {H H' : Hp} {a : Addr} {nm : PySem.Str} {ns : List Int} (h : EvAt H a nm ns) (e : Same H H') : EvAt H' a nm ns := by
  obtain ⟨nl, h1, h2⟩ := h
  exact ⟨nl, e _ _ h1, e _ _ h2⟩
theorem PAt.up {K : PySem.W.Frag} {F F' : Hp} {pa : Addr} {p : Prog} {crs : List Addr} (h : PAt K F pa p crs) (e : Same F F') : PAt K F' pa p crs where
  ex := by
    obtain ⟨dx, c, g, w, s, k, h1, h2, h3, h4, h5, h6⟩ := h.ex
    exact ⟨dx, c, g, w, s, k, e _ _ h1, e _ _ h2, e _ _ h3, e _ _ h4, e _ _ h5, e _ _ h6⟩
  len := h.len
  code := fun t d cr h1 h2 => by
    obtain ⟨is, h3, h4, h5⟩ := h.code t d cr h1 h2
    exact ⟨is, e _ _ h3, h4, fun j i a x y => (h5 j i a x y).up e⟩
/-- a program beside a machine's parts: it stands whatever the machine does -/
structure Bes (K : PySem.W.Frag) (F H : Hp) (S : MP → Hp) (L : Lay) (p : Prog) : Prop where
  in_ : Same F H
  off : ∀ q b, S q b ≠ none → F b = none
  prog : PAt K F L.pa p L.crs
  fit : Fit p
theorem Bes.stp {K : PySem.W.Frag} {F H H' : Hp} {S S' : MP → Hp} {L : Lay} {p : Prog} (B : Bes K F H S L p) (s : Stp H S H' S') : Bes K F H' S' L p where
  in_ := fun b o h => s.out b o (B.in_ b o h) fun q => by
    rcases none_or (S q b) with e | ⟨u, e⟩
    · exact e
    · rw [B.off q b (some_ne e)] at h
      cases h
  off := fun q b h => by
    rcases s.dom q b h with ⟨r, k⟩ | k
    · exact B.off r b k
    · rcases none_or (F b) with e | ⟨u, e⟩
      · exact e
      · rw [B.in_ b u e] at k
        cases k
  prog := B.prog
  fit := B.fit
theorem Bes.same {K : PySem.W.Frag} {F H H' : Hp} {S : MP → Hp} {L : Lay} {p : Prog} (B : Bes K F H S L p) (s : Same H H') : Bes K F H' S L p := ⟨B.in_.trans s, B.off, B.prog, B.fit⟩
/-- the event that is next -/
def evName (p : Prog) (t : Nat) (x : Thr) : PySem.Str := match x.need with
  | some _ => "lock"
  | none => match (p.code t)[x.pc]? with
    | some i => insName i
    | none => "end"
def evNums (p : Prog) (t : Nat) (x : Thr) : List Int := match x.need with
  | some l => [(l : Int)]
  | none => match (p.code t)[x.pc]? with
    | some i => insNums i
    | none => []
theorem optV_non {o : Option Nat} : decide (optV o = .non) = o.isNone := by
  cases o <;> rfl
section
variable {P : Program} {w : World} {K : PySem.W.Frag} {mg : PySem.Str → Option Value} {base : Heap}
def spEventOf (K : PySem.W.Frag) : Sp := sp2 fun u v H Q _ => ∃ F S L p m n t x, u = .ref L.a ∧ v = natV t ∧ MW K H S L p m n ∧ Bes K F H S L p ∧ Wf p m n ∧ m.threads[t]? = some x ∧
  ∀ H' a nl, Same H H' → H' a = some (.tup [.str (evName p t x), .ref nl]) → H' nl = some (.lst ((evNums p t x).map V.int)) → (∀ q, S q nl = none) → Q (.ref a) H'
abbrev n_event_of : List PySem.Str := ["machine", "number", "thread"]
theorem sc_event_of : FnScope n_event_of ["machine", "number"] d_event_of.scope := ⟨rfl, rfl, rfl, by decide +kernel, rfl, by decide +kernel, by decide +kernel⟩
theorem c_event_of (T : Tx w K mg) : Cal (CX0) P w K mg base 1 "event_of" (spEventOf K) := by
  refine cal_mk T.fd_event_of T.g_event_of sc_event_of (fun _ _ _ _ _ _ us hl => match us, hl with | [_, _], _ => rfl) (fun _ _ _ _ h => sp2_len h) (fun f cdv A outer s H vs Q E hr h => ?_)
  obtain ⟨_, _, rfl, F, S, L, p, m, n, t, x, rfl, rfl, W, B, wf, hx, q⟩ := h
  refine ⟨_, PSs.nox ((pss_cons (ps_set (i := 2) sc_event_of.nd rfl (Or.inl rfl) (pe_ix ix_list (pe_fld (pv 0) rfl) (pv 1) (fun _ _ => rfl)))
      (pss_cons (ps_if (pt_cmpR op_notN (pe_fld (pv 2) rfl) pe_non (nomark _)) (pss_one (ps_ret (pe_tup (pa_cons pe_str (pa_cons (pe_lst (pa_cons (pe_fld (pv 2) rfl) pa_nil)) pa_nil))))) pss_nil)
      (pss_cons (ps_if (pt_cmpR op_eq (pe_fld (pv 2) rfl) (pe_callB call_len_seq rfl T.f_len boot_len (pa_cons (pe_fld (pv 2) rfl) pa_nil)) (nomark _)) (pss_one (ps_ret (pe_tup (pa_cons pe_str (pa_cons (pe_lst pa_nil) pa_nil))))) pss_nil)
      (pss_one (ps_ret (pe_ix ix_list (pe_fld (pv 2) rfl) (pe_fld (pv 2) rfl) (fun _ _ => rfl)))))))), ?_⟩
  obtain ⟨dM, hM⟩ := W.mach
  obtain ⟨a, cr, d, dx, rg, pr, e1, e2, e3, TS, TH⟩ := W.thread hx
  obtain ⟨d', e3', ec, ew⟩ := dOf wf hx
  rw [e3] at e3'
  cases e3'
  have ok := wf.th t d x e3 hx
  obtain ⟨is, c1, c2, c3⟩ := B.prog.code t d cr e3 e2
  have c1 := B.in_ _ _ c1
  refine ⟨_, rfl, r_fld hM T.c_Machine T.n_Machine_threads mF_threads ⟨_, rfl, r_at (SqL.of W.tl) (mapRef e1) ?_⟩⟩
  refine ⟨_, rfl, r_fld TH.ins T.c_Thread T.n_Thread_wanted tF_wanted ⟨rfl, _, rfl, ?_⟩⟩
  rw [optV_non]
  cases hn : x.need with
  | some l =>
    refine iteT ⟨_, rfl, r_fld TH.ins T.c_Thread T.n_Thread_wanted (tF_wanted.trans (by rw [hn])) ⟨lineOf (by show 1 ≤ 1000; decide), fun b nb => ⟨lineOf (by show 2 ≤ 1000; decide), fun c nc => ?_⟩⟩⟩
    refine q _ c b ((same_new nb).trans (same_new nc)) ?_ ?_ (W.fam.fresh nb)
    · rw [upd_same]
      unfold evName
      rw [hn]
    · have : b ≠ c := fun e => by rw [← e, upd_same] at nc; cases nc
      rw [upd_ne this, upd_same]
      unfold evNums
      rw [hn]
      rfl
  | none =>
    refine iteF ⟨_, rfl, r_fld TH.ins T.c_Thread T.n_Thread_place tF_place ⟨_, rfl, r_fld TH.ins T.c_Thread T.n_Thread_code tF_code ⟨cr, _, rfl, .inl (SqL.of c1), rfl, _, rfl, ?_⟩⟩⟩
    rw [List.length_map, c2]
    have ed : decide (natV x.pc = V.int (d.code.length : Int)) = decide (x.pc = d.code.length) := by
      refine decide_eq_decide.mpr ⟨fun h => ?_, fun h => by rw [h]⟩
      have := V.int.inj h
      omega
    rw [ed]
    cases hi : d.code[x.pc]? with
    | none =>
      have : x.pc = d.code.length := by
        have := List.getElem?_eq_none_iff.mp hi
        have := ok.pc
        omega
      rw [decide_eq_true this]
      refine iteT ⟨lineOf (by show 0 ≤ 1000; decide), fun b nb => ⟨lineOf (by show 2 ≤ 1000; decide), fun c nc => ?_⟩⟩
      refine q _ c b ((same_new nb).trans (same_new nc)) ?_ ?_ (W.fam.fresh nb)
      · rw [upd_same]
        unfold evName
        rw [hn, ec, hi]
      · have : b ≠ c := fun e => by rw [← e, upd_same] at nc; cases nc
        rw [upd_ne this, upd_same]
        unfold evNums
        rw [hn, ec, hi]
        rfl
    | some i =>
      have hl : x.pc < d.code.length := (List.getElem?_eq_some_iff.mp hi).1
      rw [decide_eq_false (by omega)]
      have hj : is[x.pc]? = some is[x.pc] := by simp [c2, hl]
      refine iteF ⟨_, rfl, r_fld TH.ins T.c_Thread T.n_Thread_code tF_code ⟨_, rfl, r_fld TH.ins T.c_Thread T.n_Thread_place tF_place (r_at (SqL.of c1) (mapRef hj) ?_)⟩⟩
      obtain ⟨nl, g1, g2⟩ := c3 x.pc i _ hi hj
      have off : ∀ q, S q nl = none := fun q => by
        rcases none_or (S q nl) with e | ⟨u, e⟩
        · exact e
        · rw [B.off q nl (some_ne e)] at g2
          cases g2
      refine q H _ nl (Same.refl H) ?_ ?_ off
      · unfold evName
        rw [hn, ec, hi]
        exact B.in_ _ _ g1
      · unfold evNums
        rw [hn, ec, hi]
        exact B.in_ _ _ g2
end
end CT


namespace CT
open PySem PySem.Spec PyProof.Rows L2
theorem mode_1 {md : R7285d.Spec.Mode} : decide (V.int (modeN md) = V.int 1) = md.isRunning := by cases md <;> decide
theorem mode_0 {md : R7285d.Spec.Mode} : decide (V.int (modeN md) = V.int 0) = md.isIdle := by cases md <;> decide
theorem mode_2 {md : R7285d.Spec.Mode} : decide (V.int (modeN md) = V.int 2) = md.isWaiting := by cases md <;> decide
theorem mode_3 {md : R7285d.Spec.Mode} : decide (V.int (modeN md) = V.int 3) = md.isEnded := by cases md <;> decide
/-- the times of the running threads among the first i -/
def runs (m : Mach) : Nat → List (Int × Int)
  | 0 => []
  | i + 1 => runs m i ++ (match m.threads[i]? with
    | some x => if x.mode.isRunning then [((x.clock : Int), (i : Int))] else []
    | none => [])
theorem mem_runs {m : Mach} {c : Int × Int} : ∀ {i : Nat}, c ∈ runs m i ↔ ∃ (t : Nat) (x : Thr), t < i ∧ m.threads[t]? = some x ∧ x.mode.isRunning = true ∧ c = ((x.clock : Int), (t : Int))
  | 0 => by simp [runs]
  | i + 1 => by
    unfold runs
    rw [List.mem_append, mem_runs]
    constructor
    · rintro (⟨t, x, h1, h2, h3, h4⟩ | h)
      · exact ⟨t, x, by omega, h2, h3, h4⟩
      · cases hx : m.threads[i]? with
        | none => rw [hx] at h; simp at h
        | some x =>
          rw [hx] at h
          by_cases r : x.mode.isRunning = true
          · simp only [r, if_true, List.mem_singleton] at h
            exact ⟨i, x, by omega, hx, r, h⟩
          · simp [r] at h
    · rintro ⟨t, x, h1, h2, h3, h4⟩
      by_cases e : t = i
      · subst e
        right
        rw [h2]
        simp [h3, h4]
      · exact .inl ⟨t, x, by omega, h2, h3, h4⟩
def firstI (m : Mach) : Int := match m.first with
  | some t => (t : Int)
  | none => -1
theorem first_of_min {m : Mach} {c : Int × Int} (h : c ∈ runs m m.threads.length) (k : ∀ d ∈ runs m m.threads.length, ¬ ltP d c) : firstI m = c.2 := by
  obtain ⟨t, x, h1, h2, h3, rfl⟩ := mem_runs.mp h
  unfold firstI
  rw [least_of_min h2 h3 fun u y hu hr z => k _ (mem_runs.mpr ⟨u, y, (List.getElem?_eq_some_iff.mp hu).1, hu, hr, rfl⟩) (by unfold ltP; simp only; omega)]
theorem first_of_nil {m : Mach} (h : runs m m.threads.length = []) : firstI m = -1 := by
  unfold firstI
  rw [first_none_of fun u y hu hr => by
    have : ((y.clock : Int), (u : Int)) ∈ runs m m.threads.length := mem_runs.mpr ⟨u, y, (List.getElem?_eq_some_iff.mp hu).1, hu, hr, rfl⟩
    rw [h] at this
    cases this]
section
variable {P : Program} {w : World} {K : PySem.W.Frag} {mg : PySem.Str → Option Value} {base : Heap}
def spLeastOf (K : PySem.W.Frag) : Sp := sp1 fun u H Q _ => ∃ S L p m n, u = .ref L.a ∧ MW K H S L p m n ∧ m.threads.length ≤ 1000 ∧ ∀ H', Same H H' → Q (.int (firstI m)) H'
abbrev n_least_of : List PySem.Str := ["machine", "times", "at", "thread"]
theorem sc_least_of : FnScope n_least_of ["machine"] d_least_of.scope := ⟨rfl, rfl, rfl, by decide +kernel, rfl, by decide +kernel, by decide +kernel⟩
theorem c_least_of (T : Tx w K mg) : Cal (CX0) P w K mg base 2 "least_of" (spLeastOf K) := by
  refine cal_mk T.fd_least_of T.g_least_of sc_least_of (fun _ _ _ _ _ _ us hl => match us, hl with | [_], _ => rfl) (fun _ _ _ _ h => sp1_len h) (fun f cdv A outer s H vs Q E hr h => ?_)
  obtain ⟨_, rfl, S, L, p, m, n, rfl, W, small, q⟩ := h
  refine ⟨_, PSs.nox ((pss_cons (ps_setLc (i := 1) (own := [("at", 2), ("thread", 3)]) rfl sc_least_of.nd rfl rfl (sw_true rfl rfl rfl (by decide +kernel)) (pi_enum rfl T.f_enumerate (pa_cons (pe_fld (pv 0) rfl) pa_nil)) (blkOk_by (N := n_least_of) (sc := d_least_of.scope) (by decide +kernel)) (fun _ _ _ _ _ => (pg_tupK (K := K) (n := 2) rfl rfl (pgs_cons (pg_name (i := 2) sc_least_of.nd rfl (Or.inl rfl)) (pgs_cons (pg_name (i := 3) sc_least_of.nd rfl (Or.inl rfl)) pgs_nil)))) (fun _ _ _ _ _ => (pts_one (pt_cmpR op_eq (pe_fldK (K := K) rfl (pv 3) rfl) (pe_gi T.i_RUNNING rfl) (nomark _)))) (fun _ _ _ _ _ => (pe_cal (c_time_of T) hr (by decide) rfl passC (pa_cons (pv 0) (pa_cons (pv 2) pa_nil)))))
      (pss_one (ps_ret (pe_ifExp (pt_cmpR op_gt (pe_callB call_len_seq rfl T.f_len boot_len (pa_cons (pv 1) pa_nil)) pe_int (nomark _)) (pe_ix ix_tup (pe_callB (cr_minT rfl hr.units) rfl T.f_min (by decide +kernel) (pa_cons (pv 1) pa_nil)) pe_int (fun _ _ => rfl)) (pe_un un_neg pe_int)))))), ?_⟩
  obtain ⟨dM, hM⟩ := W.mach
  refine ⟨_, rfl, r_fld hM T.c_Machine T.n_Machine_threads mF_threads ⟨L.tl, _, rfl, SqL.of W.tl, fun D nD => ?_⟩⟩
  have lenE : (L.ta.map V.ref).length = m.threads.length := by rw [List.length_map, W.at_.tlen]
  refine lc_it walk_enum (fun i H1 => Same H H1 ∧ ∃ (bs : List Addr), H1 D = some (.lst (bs.map V.ref)) ∧ bs.length = (runs m i).length ∧ bs.length ≤ i ∧ ∀ (j : Nat) (b : Addr) (c : Int × Int), bs[j]? = some b → (runs m i)[j]? = some c → H1 b = some (.tup [.int c.1, .int c.2]))
    ⟨same_new nD, [], upd_same, rfl, Nat.le_refl _, fun j b c h => by simp at h⟩ (fun i H1 _ h => SqL.of (h.1 _ _ W.tl)) ?_ ?_
  · rintro i v H1 H2 hi ⟨s1, bs, hD, hl, hle, hb⟩ ⟨Tt, x0, y0, rfl, nT, rfl, e1, e2⟩
    cases e1
    rw [lenE] at hi
    have hx : m.threads[i]? = some m.threads[i] := by simp [hi]
    generalize m.threads[i] = x at hx
    obtain ⟨a, cr, d, dx, rg, pr, f1, f2, f3, TS, TH⟩ := W.thread hx
    have e2' : (L.ta.map V.ref)[i]? = some y0 := e2
    rw [mapRef f1] at e2'
    cases e2'
    have s2 : Same H (upd H1 Tt (.tup [.int (i : Nat), .ref a])) := s1.trans (same_new nT)
    refine ⟨Tt, _, rfl, SqT.of upd_same, rfl, _, _, rfl, _, _, rfl, rfl, rfl, ⟨_, rfl, r_fld (s2 _ _ TH.ins) T.c_Thread T.n_Thread_mode tF_mode ⟨rfl, _, rfl, ?_⟩⟩⟩
    rw [mode_1]
    have hD2 : upd H1 Tt (.tup [.int (i : Nat), .ref a]) D = some (.lst (bs.map V.ref)) := by rw [upd_ne (ne_of_none hD nT)]; exact hD
    by_cases r : x.mode.isRunning = true
    · refine if_t r ?_
      refine ⟨_, rfl, _, rfl, _, _, rfl, S, L, p, m, n, i, x, rfl, rfl, W.same s2, hx, fun c nc => ⟨bs.map V.ref, ?_, ?_, ?_, ?_⟩⟩
      · rw [upd_ne (ne_of_none hD2 nc)]
        exact hD2
      · exact small1000 (by rw [List.length_map]; omega)
      · exact same_at nD (s2.trans (same_new nc))
      · have er : runs m (i + 1) = runs m i ++ [((x.clock : Int), (i : Int))] := by
          show runs m i ++ _ = _
          rw [hx]
          simp [r]
        refine ⟨bs ++ [c], by rw [upd_same, List.map_append]; rfl, by rw [er]; simp [hl], by simp; omega, fun j b c' h1 h2 => ?_⟩
        rw [er] at h2
        by_cases hj : j < bs.length
        · rw [List.getElem?_append_left hj] at h1
          rw [List.getElem?_append_left (by omega)] at h2
          have hb' := hb j b c' h1 h2
          have hb2 : upd H1 Tt (.tup [.int (i : Nat), .ref a]) b = some (.tup [.int c'.1, .int c'.2]) := by rw [upd_ne (ne_of_none hb' nT)]; exact hb'
          rw [upd_ne (ne_of hb2 hD2 (fun z => nomatch z)), upd_ne (ne_of_none hb2 nc)]
          exact hb2
        · have hj2 : j = bs.length := by
            have := (List.getElem?_eq_some_iff.mp h1).1
            simp at this
            omega
          subst hj2
          simp at h1
          subst h1
          rw [hl] at h2
          simp at h2
          subst h2
          rw [upd_ne (fun e => by rw [e, hD2] at nc; cases nc), upd_same]
    · refine if_f (by simpa using r) ?_
      have er : runs m (i + 1) = runs m i := by
        show runs m i ++ _ = _
        rw [hx]
        simp [r]
      refine ⟨s2, bs, hD2, by rw [er]; exact hl, by omega, fun j b c' h1 h2 => ?_⟩
      rw [er] at h2
      have hb' := hb j b c' h1 h2
      rw [upd_ne (ne_of_none hb' nT)]
      exact hb'
  · rintro H1 ⟨s1, bs, hD, hl, hle, hb⟩
    rw [lenE] at hl hb
    refine ⟨_, rfl, D, _, rfl, .inl (SqL.of hD), _, _, rfl, rfl, _, rfl, ?_⟩
    by_cases e : runs m m.threads.length = []
    · have e0 : bs = [] := by
        rw [e] at hl
        exact List.eq_nil_of_length_eq_zero hl
      subst e0
      refine iteF ⟨_, rfl, ?_⟩
      have := q H1 s1
      rw [first_of_nil e] at this
      exact this
    · have pos : 0 < bs.length := by
        rw [hl]
        exact List.length_pos_iff.mpr e
      refine if_t (by rw [decide_eq_true_eq, List.length_map]; omega) ?_
      refine ⟨_, rfl, D, bs, runs m m.threads.length, rfl, SqL.of hD, hl, e, hb, fun i b c h1 h2 least => ⟨b, _, 1, _, rfl, rfl, SqT.of (hb i b c h1 h2), rfl, ?_⟩⟩
      have := q H1 s1
      rw [first_of_min (List.mem_of_getElem? h2) least] at this
      exact this
end
end CT


namespace CT
open PySem PySem.Spec PyProof.Rows L2
def lateV : List V := lateVals.map (He.Dv.v [])
theorem late_v (K : PySem.W.Frag) : lateVals.map (He.Dv.v K) = lateV := rfl
/-- only lock, wait, wake, start, join ask for the least time -/
theorem late_sync {p : Prog} {t : Nat} {x : Thr} : inV (.str (evName p t x)) lateV = (p.act t x).sync := by
  unfold evName R7285d.Spec.Program.act R7285d.Spec.Thread.next
  cases x.need with
  | some l => kernel_rfl
  | none =>
    cases (p.code t)[x.pc]? with
    | none => kernel_rfl
    | some i => cases i <;> kernel_rfl
section
variable {P : Program} {w : World} {K : PySem.W.Frag} {mg : PySem.Str → Option Value} {base : Heap}
theorem Tx.late (T : Tx w K mg) (H : Hp) : SqT K H (He.ga K "LATE") lateV := by
  have h := T.s.ex
  unfold exB at h
  simp only [Bool.and_eq_true] at h
  have := He.tupB_ok h.1 H
  rw [late_v] at this
  exact this
def spCanGo (K : PySem.W.Frag) : Sp := sp2 fun u v H Q _ => ∃ F S L p m n t x, u = .ref L.a ∧ v = natV t ∧ MW K H S L p m n ∧ Bes K F H S L p ∧ Wf p m n ∧ m.threads[t]? = some x ∧
  ∀ H', Same H H' → Q (.bl (p.go m t).isSome) H'
abbrev n_can_go : List PySem.Str := ["machine", "number"]
theorem sc_can_go : FnScope n_can_go ["machine", "number"] d_can_go.scope := ⟨rfl, rfl, rfl, by decide +kernel, rfl, by decide +kernel, by decide +kernel⟩
theorem c_can_go (T : Tx w K mg) : Cal (CX0) P w K mg base 3 "can_go" (spCanGo K) := by
  refine cal_mk T.fd_can_go T.g_can_go sc_can_go (fun _ _ _ _ _ _ us hl => match us, hl with | [_, _], _ => rfl) (fun _ _ _ _ h => sp2_len h) (fun f cdv A outer s H vs Q E hr h => ?_)
  obtain ⟨_, _, rfl, F, S, L, p, m, n, t, x, rfl, rfl, W, B, wf, hx, q⟩ := h
  refine ⟨_, PSs.nox ((pss_cons (ps_if (pt_cmpR op_ne (pe_fld (pe_ix ix_list (pe_fld (pv 0) rfl) (pv 1) (fun _ _ => rfl)) rfl) (pe_gi T.i_RUNNING rfl) (nomark _)) (pss_one (ps_ret pe_bl)) pss_nil)
      (pss_one (ps_ret (pe_or (pe_cmpR op_notIn_seq (pe_ix ix_tup (pe_cal (c_event_of T) hr (by decide) rfl passC (pa_cons (pv 0) (pa_cons (pv 1) pa_nil))) pe_int (fun _ _ => rfl)) (pe_gr T.g_LATE rfl) rfl) (pe_one (pe_cmpR op_eq (pe_cal (c_least_of T) hr (by decide) rfl passC (pa_cons (pv 0) pa_nil)) (pv 1) (nomark _)))))))), ?_⟩
  obtain ⟨dM, hM⟩ := W.mach
  obtain ⟨a, cr, d, dx, rg, pr, e1, e2, e3, TS, TH⟩ := W.thread hx
  rw [go_at hx] at q
  refine ⟨_, rfl, r_fld hM T.c_Machine T.n_Machine_threads mF_threads ⟨_, rfl, r_at (SqL.of W.tl) (mapRef e1) (r_fld TH.ins T.c_Thread T.n_Thread_mode tF_mode ⟨rfl, _, rfl, ?_⟩)⟩⟩
  rw [mode_1]
  cases r : x.mode.isRunning with
  | false =>
    refine if_t rfl ?_
    rw [r] at q
    exact q H (Same.refl H)
  | true =>
    rw [r] at q
    refine if_f rfl ⟨_, rfl, _, rfl, _, _, rfl, F, S, L, p, m, n, t, x, rfl, rfl, W, B, wf, hx, fun H1 c nl s1 g1 g2 _ => ⟨c, _, 0, _, rfl, rfl, SqT.of g1, rfl, He.ga K "LATE", lateV, rfl, .inr (T.late H1), rfl, rfl, _, rfl, ?_⟩⟩
    show if (!inV (V.str (evName p t x)) lateV) = true then _ else _
    rw [late_sync]
    cases sy : (p.act t x).sync with
    | false =>
      refine if_t rfl ?_
      rw [sy] at q
      exact q H1 s1
    | true =>
      rw [sy] at q
      refine if_f rfl ⟨_, rfl, _, rfl, S, L, p, m, n, rfl, W.same s1, by rw [wf.threads]; exact Nat.le_trans B.fit.threads.2 (by decide), fun H2 s2 => ⟨_, rfl, rfl, ?_⟩⟩
      have e : decide (V.int (firstI m) = natV t) = m.least t x := by
        unfold firstI
        cases hl : m.least t x with
        | true =>
          rw [first_some.mpr ⟨x, hx, r, hl⟩]
          exact decide_eq_true rfl
        | false =>
          refine decide_eq_false fun z => ?_
          cases hf : m.first with
          | none =>
            rw [hf] at z
            have := V.int.inj z
            simp only at this
            omega
          | some u =>
            rw [hf] at z
            have e := V.int.inj z
            have e' : u = t := by simp only at e; omega
            subst e'
            obtain ⟨y, hy, _, ly⟩ := first_some.mp hf
            rw [hx] at hy
            cases hy
            rw [hl] at ly
            cases ly
      rw [e]
      have := q H2 (s1.trans s2)
      cases hl : m.least t x <;> rw [hl] at this <;> exact this
end
end CT


namespace CT
open PySem PySem.Spec PyProof.Rows L2
/-- the choices among the first i threads -/
def chUp (p : Prog) (m : Mach) (i : Nat) : List Nat := (List.range i).filter fun t => (p.go m t).isSome
theorem chUp_succ {p : Prog} {m : Mach} {i : Nat} : chUp p m (i + 1) = chUp p m i ++ (if (p.go m i).isSome then [i] else []) := by
  unfold chUp
  rw [List.range_succ, List.filter_append]
  cases h : (p.go m i).isSome <;> simp [List.filter, h]
theorem chUp_all {p : Prog} {m : Mach} : chUp p m m.threads.length = p.choices m := rfl
theorem chUp_len {p : Prog} {m : Mach} {i : Nat} : (chUp p m i).length ≤ i := by
  have := List.length_filter_le (fun t => (p.go m t).isSome) (List.range i)
  unfold chUp
  simpa using this
section
variable {P : Program} {w : World} {K : PySem.W.Frag} {mg : PySem.Str → Option Value} {base : Heap}
def spChoicesOf (K : PySem.W.Frag) : Sp := sp1 fun u H Q _ => ∃ F S L p m n, u = .ref L.a ∧ MW K H S L p m n ∧ Bes K F H S L p ∧ Wf p m n ∧
  ∀ H' D, Same H H' → H D = none → H' D = some (.lst ((p.choices m).map natV)) → Q (.ref D) H'
abbrev n_choices_of : List PySem.Str := ["machine", "number"]
theorem sc_choices_of : FnScope n_choices_of ["machine"] d_choices_of.scope := ⟨rfl, rfl, rfl, by decide +kernel, rfl, by decide +kernel, by decide +kernel⟩
theorem c_choices_of (T : Tx w K mg) : Cal (CX0) P w K mg base 4 "choices_of" (spChoicesOf K) := by
  refine cal_mk T.fd_choices_of T.g_choices_of sc_choices_of (fun _ _ _ _ _ _ us hl => match us, hl with | [_], _ => rfl) (fun _ _ _ _ h => sp1_len h) (fun f cdv A outer s H vs Q E hr h => ?_)
  obtain ⟨_, rfl, F, S, L, p, m, n, rfl, W, B, wf, q⟩ := h
  refine ⟨_, PSs.nox ((pss_one (ps_ret (pe_lc (own := [("number", 1)]) rfl sc_choices_of.nd (pi_range1 rfl T.f_range (pa_cons (pe_callB call_len_seq rfl T.f_len boot_len (pa_cons (pe_fld (pv 0) rfl) pa_nil)) pa_nil)) (blkOk_by (N := n_choices_of) (sc := d_choices_of.scope) (by decide +kernel)) (fun _ _ _ _ _ => (pg_name (i := 1) sc_choices_of.nd rfl (Or.inl rfl))) (fun _ _ _ _ _ => (pts_one (pt_val (pe_cal (c_can_go T) hr (by decide) rfl passC (pa_cons (pv 0) (pa_cons (pv 1) pa_nil)))))) (fun _ _ _ _ _ => (pv 1)))))), ?_⟩
  obtain ⟨dM, hM⟩ := W.mach
  have lenE : (L.ta.map V.ref).length = m.threads.length := by rw [List.length_map, W.at_.tlen]
  have small : m.threads.length ≤ 4 := by rw [wf.threads]; exact B.fit.threads.2
  refine ⟨_, rfl, r_fld hM T.c_Machine T.n_Machine_threads mF_threads ⟨L.tl, _, rfl, .inl (SqL.of W.tl), _, rfl, by omega, by omega, fun D nD => ?_⟩⟩
  rw [lenE, Int.toNat_natCast]
  refine lc_range (fun i H1 => Same H H1 ∧ H1 D = some (.lst ((chUp p m i).map natV))) ⟨same_new nD, upd_same⟩ ?_ ?_
  · rintro i H1 hi ⟨s1, hD⟩
    rw [Int.zero_add]
    have hx : m.threads[i]? = some m.threads[i] := by simp [hi]
    generalize m.threads[i] = x at hx
    refine ⟨rfl, _, rfl, _, rfl, _, _, rfl, F, S, L, p, m, n, i, x, rfl, rfl, W.same s1, B.same s1, wf, hx, fun H2 s2 => ⟨_, rfl, ?_⟩⟩
    have er := chUp_succ (p := p) (m := m) (i := i)
    cases g : (p.go m i).isSome with
    | true =>
      rw [g] at er
      refine if_t rfl ⟨_, rfl, (chUp p m i).map natV, s2 _ _ hD, ?_, ?_, ?_⟩
      · have := chUp_len (p := p) (m := m) (i := i)
        exact small1000 (by rw [List.length_map]; omega)
      · exact same_at nD (s1.trans s2)
      · rw [upd_same, er, List.map_append]
        rfl
    | false =>
      rw [g] at er
      refine if_f rfl ⟨s1.trans s2, ?_⟩
      rw [s2 _ _ hD, er]
      simp
  · rintro H1 ⟨s1, hD⟩
    rw [chUp_all] at hD
    exact q H1 D s1 nD hD
end
end CT


namespace CT
open PySem PySem.Spec PyProof.Rows L2
theorem natV_succ (n : Nat) : V.int ((n : Int) + 1) = natV (n + 1) := rfl
theorem lt_line {n : Nat} (h : n < 2000000) : n < sizeLine := by
  rw [sizeLine_eq]
  omega
theorem ixN_nat {n i : Nat} (h : i < n) : ixN n (i : Int) = some i := by
  unfold ixN
  rw [if_pos (by omega), if_pos (by omega)]
  simp
theorem set_map {α β : Type} (f : α → β) (l : List α) (i : Nat) (a : α) : (l.map f).set i (f a) = (l.set i a).map f := (List.map_set ..).symm
section
variable {K : PySem.W.Frag} {H : Hp} {S : MP → Hp} {L : Lay} {p : Prog} {m : Mach} {n : Nat} {k : Nat} {x x' : Thr} {a : Addr} {f : PySem.Str}
theorem MW.threadA (W : MW K H S L p m n) (hx : m.threads[k]? = some x) (ea : L.ta[k]? = some a) : ∃ cr d dx rg pr, L.crs[k]? = some cr ∧ p.threads[k]? = some d ∧ ThAt K (S (.thr k)) a cr d.weight x dx rg pr ∧ ThAt K H a cr d.weight x dx rg pr := by
  obtain ⟨a', cr, d, dx, rg, pr, e1, e2, e3, TS, TH⟩ := W.thread hx
  rw [ea] at e1
  cases e1
  exact ⟨cr, d, dx, rg, pr, e2, e3, TS, TH⟩
theorem MW.fldT (W : MW K H S L p m n) (hx : m.threads[k]? = some x) (ea : L.ta[k]? = some a) {v : V} {Q : V → Prop} (c : Cls K (cThr K)) (na : NoAttr K (cThr K) f)
    (l : ∀ cr wt rg pr, (tF cr wt x rg pr).lookup f = some v) (q : Q v) :
    ∃ a' C' dx' fs' v', V.ref a = .ref a' ∧ H a' = some (.ins C' dx' fs') ∧ Cls K C' ∧ NoAttr K C' f ∧ fs'.lookup f = some v' ∧ Q v' := by
  obtain ⟨cr, d, dx, rg, pr, e2, e3, TS, TH⟩ := W.threadA hx ea
  exact r_fld TH.ins c na (l _ _ _ _) q
theorem MW.putT (W : MW K H S L p m n) (hx : m.threads[k]? = some x) (ea : L.ta[k]? = some a) {y : V} (x' : Thr) {Q : Hp → Prop} (c : Cls K (cThr K)) (na : NoAttr K (cThr K) f)
    (e : ∀ cr wt rg pr, putF f y (tF cr wt x rg pr) = tF cr wt x' rg pr) (er : x'.regs = x.regs) (eo : x'.out = x.out) (q : ∀ H1 S1, MW K H1 S1 L p (setT m k x') n → Stp H S H1 S1 → Q H1) :
    ∃ a' C' dx' fs', V.ref a = .ref a' ∧ H a' = some (.ins C' dx' fs') ∧ Cls K C' ∧ NoAttr K C' f ∧ fs'.length < 1000 ∧ Q (upd H a' (.ins C' dx' (putF f y fs'))) := by
  obtain ⟨cr, d, dx, rg, pr, e2, e3, TS, TH⟩ := W.threadA hx ea
  obtain ⟨S1, W1, s1⟩ := W.thrIns (x' := x') hx ea e2 e3 TS er eo
  exact r_set TH.ins c na tF_len (e _ _ _ _) (q _ S1 W1 s1)
theorem MW.augT (W : MW K H S L p m n) (hx : m.threads[k]? = some x) (ea : L.ta[k]? = some a) (x' : Thr) {i : Nat} {Q : Hp → Prop} (c : Cls K (cThr K)) (na : NoAttr K (cThr K) f)
    (l : ∀ cr wt rg pr, (tF cr wt x rg pr).lookup f = some (natV i)) (e : ∀ cr wt rg pr, putF f (natV (i + 1)) (tF cr wt x rg pr) = tF cr wt x' rg pr) (er : x'.regs = x.regs) (eo : x'.out = x.out) (q : ∀ H1 S1, MW K H1 S1 L p (setT m k x') n → Stp H S H1 S1 → Q H1) :
    ∃ a' C' dx' fs' v', V.ref a = .ref a' ∧ H a' = some (.ins C' dx' fs') ∧ Cls K C' ∧ NoAttr K C' f ∧ fs'.lookup f = some v' ∧
      rAdd v' (.int 1) H fun z H3 => ∃ dx2 fs2, H3 a' = some (.ins C' dx2 fs2) ∧ fs2.length < 1000 ∧ Q (upd H3 a' (.ins C' dx2 (putF f z fs2))) := by
  obtain ⟨cr, d, dx, rg, pr, e2, e3, TS, TH⟩ := W.threadA hx ea
  obtain ⟨S1, W1, s1⟩ := W.thrIns (x' := x') hx ea e2 e3 TS er eo
  refine ⟨a, _, _, _, _, rfl, TH.ins, c, na, l _ _ _ _, _, _, rfl, rfl, _, _, TH.ins, tF_len, ?_⟩
  rw [natV_succ, e]
  exact q _ S1 W1 s1
theorem MW.lockA (W : MW K H S L p m n) {y : Lck} (hy : m.locks[k]? = some y) (ea : L.la[k]? = some a) : ∃ dx od fv f, LkAt K H (S (.lock k)) a y dx od fv f ∧ H a = some (.ins (cLck K) dx (lF y.holder od fv)) ∧ H od = some (.lst (y.order.map natV)) := by
  obtain ⟨a', dx, od, fv, f, e1, T, h1, h2⟩ := W.lock hy
  rw [ea] at e1
  cases e1
  exact ⟨dx, od, fv, f, T, h1, h2⟩
end
theorem lex2 {a b c d : Nat} : HT.lexLt [(a : Int), (b : Int)] [(c : Int), (d : Int)] = R7285d.Spec.earlier (a, b) (c, d) := by
  unfold R7285d.Spec.earlier
  rw [HT.lexLt_cons, HT.lexLt_cons]
  by_cases e : (a : Int) = c
  · rw [if_pos e]
    have e' : a = c := by omega
    subst e'
    by_cases e2 : (b : Int) = d
    · rw [if_pos e2]
      have e2' : b = d := by omega
      subst e2'
      simp [HT.lexLt]
    · rw [if_neg e2]
      simp
  · rw [if_neg e]
    have e' : a ≠ c := by omega
    simp [e']
section
variable {P : Program} {w : World} {K : PySem.W.Frag} {mg : PySem.Str → Option Value} {base : Heap}
def spTakeLock (K : PySem.W.Frag) : Sp := sp3 fun u v z H Q _ => ∃ S L p m n t x l k b, u = .ref L.a ∧ v = natV t ∧ z = .ref b ∧ MW K H S L p m n ∧ m.threads[t]? = some x ∧ m.locks[l]? = some k ∧ L.la[l]? = some b ∧ k.order.length < 2000000 ∧
  ∀ H', Goes K L p H S H' (takeM m t x l) n → Q .non H'
abbrev n_take_lock : List PySem.Str := ["machine", "number", "lock", "thread"]
theorem sc_take_lock : FnScope n_take_lock ["machine", "number", "lock"] d_take_lock.scope := ⟨rfl, rfl, rfl, by decide +kernel, rfl, by decide +kernel, by decide +kernel⟩
theorem c_take_lock (T : Tx w K mg) : Cal (CX0) P w K mg base 2 "take_lock" (spTakeLock K) := by
  refine cal_mk T.fd_take_lock T.g_take_lock sc_take_lock (fun _ _ _ _ _ _ us hl => match us, hl with | [_, _, _], _ => rfl) (fun _ _ _ _ h => sp3_len h) (fun f cdv A outer s H vs Q E hr h => ?_)
  obtain ⟨_, _, _, rfl, S, L, p, m, n, t, x, l, k, b, rfl, rfl, rfl, W, hx, hk, hb, small, q⟩ := h
  refine ⟨_, PSs.nox ((pss_cons (ps_set (i := 3) sc_take_lock.nd rfl (Or.inl rfl) (pe_ix ix_list (pe_fld (pv 0) rfl) (pv 1) (fun _ _ => rfl)))
      (pss_one (ps_if (PW.pt (pw_and (pt_cmpR op_isN (pe_fld (pv 2) rfl) pe_non (nomark _)) (pw_and1 (PW.pt (pw_or (pt_cmpR op_isN (pe_fld (pv 2) rfl) pe_non (nomark _)) (pw_or1 (pt_cmpR (op_ltT hr.units0) (pe_fld (pv 2) rfl) (pe_cal (c_time_of T) hr (by decide) rfl passC (pa_cons (pv 0) (pa_cons (pv 1) pa_nil))) (nomark _)))))))) (pss_cons (ps_fld (pv 2) (pv 1) rfl)
      (pss_cons (ps_expr (pe_bm PySem.F.plainAttrs_list PySem.F.slot_list_append PySem.F.type_list_append mt_append (pe_fld (pv 2) rfl) (pa_cons (pv 1) pa_nil)))
      (pss_cons (ps_if (pt_cmpR op_isN (pe_fld (pv 3) rfl) pe_non (nomark _)) (pss_one (ps_fldaug (pv 3) pe_int in_add)) pss_nil)
      (pss_one (ps_fld (pv 3) pe_non rfl))))) pss_nil)))), ?_⟩
  obtain ⟨dM, hM⟩ := W.mach
  obtain ⟨a, cr, d, dx, rg, pr, e1, e2, e3, TS, TH⟩ := W.thread hx
  obtain ⟨dl, od, fv, f, LS, LH, LO⟩ := W.lockA hk hb
  have kA : m.lockAt l = k := by unfold R7285d.Spec.Machine.lockAt; exact getD_some hk
  refine ⟨_, rfl, r_fld hM T.c_Machine T.n_Machine_threads mF_threads ⟨_, rfl, r_at (SqL.of W.tl) (mapRef e1) ?_⟩⟩
  -- what follows where the lock isn't open, and where it is
  have shut : m.isOpen l (x.clock, t) = false → ∀ H1, Same H H1 → Q .non H1 := fun c H1 s1 => q H1 (by
    have : takeM m t x l = m := by unfold takeM; rw [c]; rfl
    rw [this]
    exact ⟨S, W.same s1, Stp.same s1⟩)
  have opened : m.isOpen l (x.clock, t) = true → ∀ H1, Same H H1 →
      (tSeq (sFld K (tVar 2) (tVar 1) "holder") (tSeq (tDrop (tBM K "list" rAppend (tFld K (tVar 2) "order") (tCons (tVar 1) tNil))) (tSeq (tIfS (tTest (tOp (fun x y H Q => y = V.non ∧ Q (V.bl (decide (x = V.non))) H) (tFld K (tVar 3) "wanted") (tC .non))) (sFldAug K (tVar 3) (tC (.int 1)) rAdd "place") tNext) (sFld K (tVar 3) (tC .non) "wanted"))))
        { nx := fun _ H' => Q .non H', rt := Q } [some (.ref L.a), some (natV t), some (.ref b), some (.ref a)] H1 := fun c H1 s1 => by
    have W1 := W.same s1
    have LH1 := s1 _ _ LH
    have LS1 : LkAt K H1 (S (.lock l)) b k dl od fv f := LS.tups fun c xs e => s1 _ _ e
    refine ⟨_, rfl, _, rfl, r_set LH1 T.c_Lock T.n_Lock_holder lF_len (lF_put_holder (y := some t)) ?_⟩
    obtain ⟨S2, W2, st2⟩ := W1.lockIns (y' := { k with holder := some t }) hk hb LS1 rfl LS1.frd (fun z => by cases z)
    have hk2 : (setL m l { k with holder := some t }).locks[l]? = some { k with holder := some t } := set_get hk
    obtain ⟨dl', od', fv', f', LS2, LH2, LO2⟩ := W2.lockA hk2 hb
    refine ⟨_, rfl, r_fld LH2 T.c_Lock T.n_Lock_order lF_order ⟨.inl ⟨rfl, _, SqL.of LO2⟩, _, rfl, od', _, _, rfl, rfl, LO2, lt_line (by rw [List.length_map]; exact small), ?_⟩⟩
    obtain ⟨S3, W3, st3⟩ := W2.lockOrd hk2 hb LS2 (k.order ++ [t])
    have e4 : (k.order ++ [t]).map natV = k.order.map natV ++ [natV t] := by rw [List.map_append]; rfl
    rw [e4] at W3 st3
    have hx3 : (setL (setL m l { k with holder := some t }) l { k with holder := some t, order := k.order ++ [t] }).threads[t]? = some x := hx
    have tk : takeM m t x l = setL (setT m t x.taken) l ⟨some t, none, k.order ++ [t]⟩ := by
      unfold takeM
      rw [c, kA]
      rfl
    have fin : ∀ H4 S4 (y : Thr), MW K H4 S4 L p (setT (setL (setL m l { k with holder := some t }) l { k with holder := some t, order := k.order ++ [t] }) t y) n → Stp H1 S H4 S4 → y = x.taken → Q .non H4 := fun H4 S4 y W4 st4 ey => by
      refine q H4 ⟨S4, ?_, (Stp.same s1).trans st4⟩
      rw [tk]
      subst ey
      have hk4 : (setT (setL (setL m l { k with holder := some t }) l { k with holder := some t, order := k.order ++ [t] }) t x.taken).locks[l]? = some { k with holder := some t, order := k.order ++ [t] } := set_get (set_get hk)
      obtain ⟨b5, d5, o5, v5, f5, g5, LS5, _⟩ := W4.lock hk4
      refine ⟨W4.fam, ?_⟩
      have M5 := W4.at_.lock hk4 g5 (y' := ⟨some t, none, k.order ++ [t]⟩) (h := S4 (.lock l)) (LkAt.mk LS5.ins LS5.ord LS5.frd (fun z => by cases z))
      have e5 : putS S4 (.lock l) (S4 (.lock l)) = S4 := by
        funext r
        by_cases z : r = .lock l
        · subst z
          exact putS_same
        · exact putS_ne z
      rw [e5] at M5
      have e6 : setL (setT (setL (setL m l { k with holder := some t }) l { k with holder := some t, order := k.order ++ [t] }) t x.taken) l ⟨some t, none, k.order ++ [t]⟩ = setL (setT m t x.taken) l ⟨some t, none, k.order ++ [t]⟩ := by
        simp [setL, setT]
      rw [e6] at M5
      exact M5
    refine ⟨_, rfl, W3.fldT hx3 e1 T.c_Thread T.n_Thread_wanted (fun _ _ _ _ => tF_wanted) ⟨rfl, _, rfl, ?_⟩⟩
    rw [optV_non]
    cases hn : x.need with
    | none =>
      refine if_t rfl ⟨_, rfl, W3.augT hx3 e1 { x with pc := x.pc + 1 } T.c_Thread T.n_Thread_place (fun _ _ _ _ => tF_place) (fun _ _ _ _ => tF_put_place) rfl rfl fun H4 S4 W4 st4 => ?_⟩
      refine ⟨_, rfl, W4.putT (setT_get hx3) e1 { x with pc := x.pc + 1, need := none } T.c_Thread T.n_Thread_wanted (fun _ _ _ _ => tF_put_wanted (y := none)) rfl rfl fun H5 S5 W5 st5 => ?_⟩
      rw [setT_setT] at W5
      exact fin _ _ _ W5 (st2.trans (st3.trans (st4.trans st5))) (by unfold R7285d.Spec.Thread.taken R7285d.Spec.Thread.advance; rw [hn])
    | some j =>
      refine if_f rfl ?_
      refine ⟨_, rfl, W3.putT hx3 e1 { x with need := none } T.c_Thread T.n_Thread_wanted (fun _ _ _ _ => tF_put_wanted (y := none)) rfl rfl fun H5 S5 W5 st5 => ?_⟩
      exact fin _ _ _ W5 (st2.trans (st3.trans st5)) (by unfold R7285d.Spec.Thread.taken; rw [hn])
  have op : m.isOpen l (x.clock, t) = (k.holder.isNone && match k.freed with
    | some b => R7285d.Spec.earlier b (x.clock, t)
    | none => true) := by
    unfold R7285d.Spec.Machine.isOpen
    rw [kA]
    rfl
  refine ⟨_, rfl, r_fld LH T.c_Lock T.n_Lock_holder lF_holder ⟨rfl, _, rfl, ?_⟩⟩
  rw [optV_non]
  cases hh : k.holder with
  | some u =>
    rw [hh] at op
    exact if_f rfl (if_f rfl (shut op H (Same.refl H)))
  | none =>
    rw [hh] at op
    have ef := LS.tell hh
    subst ef
    refine if_t rfl ⟨_, rfl, r_fld LH T.c_Lock T.n_Lock_freed lF_freed ⟨rfl, _, rfl, ?_⟩⟩
    have fr := LS.frd
    revert fr op
    cases hf : k.freed with
    | none =>
      intro op fr
      cases fv with
      | non => exact if_t rfl (if_t rfl (opened op H (Same.refl H)))
      | _ => exact fr.elim
    | some c =>
      intro op fr
      cases fv with
      | ref u =>
        have fr' : H u = some (.tup [natV c.1, natV c.2]) := fr
        refine if_f rfl ⟨_, rfl, r_fld LH T.c_Lock T.n_Lock_freed lF_freed ⟨_, rfl, _, rfl, _, _, rfl, S, L, p, m, n, t, x, rfl, rfl, W, hx, fun d nd => ⟨u, d, [(c.1 : Int), (c.2 : Int)], [(x.clock : Int), (t : Int)], rfl, rfl, SqT.of (same_new nd _ _ fr'), SqT.of upd_same, _, rfl, ?_⟩⟩⟩
        rw [lex2]
        cases he : R7285d.Spec.earlier (c.1, c.2) (x.clock, t) with
        | true =>
          refine if_t rfl (opened ?_ _ (same_new nd))
          rw [op]
          exact he
        | false =>
          refine if_f rfl (shut ?_ _ (same_new nd))
          rw [op]
          exact he
      | _ => exact fr.elim
def spFreeLock (K : PySem.W.Frag) : Sp := sp3 fun u v z H Q _ => ∃ S L p m n t x l k b, u = .ref L.a ∧ v = natV t ∧ z = .ref b ∧ MW K H S L p m n ∧ m.threads[t]? = some x ∧ m.locks[l]? = some k ∧ L.la[l]? = some b ∧
  ∀ H' S', MW K H' S' L p (freeM m t x.clock l) n → Stp H S H' S' → Q .non H'
abbrev n_free_lock : List PySem.Str := ["machine", "number", "lock"]
theorem sc_free_lock : FnScope n_free_lock ["machine", "number", "lock"] d_free_lock.scope := ⟨rfl, rfl, rfl, by decide +kernel, rfl, by decide +kernel, by decide +kernel⟩
theorem c_free_lock (T : Tx w K mg) : Cal (CX0) P w K mg base 2 "free_lock" (spFreeLock K) := by
  refine cal_mk T.fd_free_lock T.g_free_lock sc_free_lock (fun _ _ _ _ _ _ us hl => match us, hl with | [_, _, _], _ => rfl) (fun _ _ _ _ h => sp3_len h) (fun f cdv A outer s H vs Q E hr h => ?_)
  obtain ⟨_, _, _, rfl, S, L, p, m, n, t, x, l, k, b, rfl, rfl, rfl, W, hx, hk, hb, q⟩ := h
  refine ⟨_, PSs.nox ((pss_cons (ps_fld (pv 2) pe_non rfl)
      (pss_one (ps_fld (pv 2) (pe_cal (c_time_of T) hr (by decide) rfl passC (pa_cons (pv 0) (pa_cons (pv 1) pa_nil))) rfl)))), ?_⟩
  obtain ⟨dl, od, fv, f, LS, LH, LO⟩ := W.lockA hk hb
  have kA : m.lockAt l = k := by unfold R7285d.Spec.Machine.lockAt; exact getD_some hk
  refine ⟨_, rfl, r_set LH T.c_Lock T.n_Lock_holder lF_len (lF_put_holder (y := none)) ?_⟩
  obtain ⟨S2, W2, st2⟩ := W.lockIns (y' := ⟨none, f, k.order⟩) hk hb LS rfl LS.frd (fun z => rfl)
  refine ⟨_, rfl, _, rfl, _, _, rfl, S2, L, p, _, n, t, x, rfl, rfl, W2, hx, fun c nc => ?_⟩
  have W3 := W2.same (same_new (o := .tup [natV x.clock, natV t]) nc)
  have hk3 : (setL m l ⟨none, f, k.order⟩).locks[l]? = some ⟨none, f, k.order⟩ := set_get hk
  obtain ⟨dl', od', fv', f', LS3, LH3, LO3⟩ := W3.lockA hk3 hb
  refine ⟨_, rfl, r_set LH3 T.c_Lock T.n_Lock_freed lF_len lF_put_freed ?_⟩
  obtain ⟨S4, W4, st4⟩ := W3.lockIns (y' := ⟨none, some (x.clock, t), k.order⟩) (fv' := .ref c) (f' := some (x.clock, t)) hk3 hb LS3 rfl (by show upd _ c _ c = _; exact upd_same) (fun z => rfl)
  have e : setL (setL m l ⟨none, f, k.order⟩) l ⟨none, some (x.clock, t), k.order⟩ = freeM m t x.clock l := by
    unfold freeM R7285d.Spec.Lock.release
    rw [kA]
    simp [setL]
  rw [e] at W4
  exact q _ S4 W4 (st2.trans ((Stp.same (same_new nc)).trans st4))
end
end CT


namespace CT
open PySem PySem.Spec PyProof.Rows L2
theorem holds_at {m : Mach} {l t : Nat} {k : Lck} (hk : m.locks[l]? = some k) : decide (optV k.holder = natV t) = m.holds l t := by
  unfold R7285d.Spec.Machine.holds R7285d.Spec.Machine.lockAt
  rw [getD_some hk]
  cases k.holder with
  | none => rfl
  | some u =>
    by_cases e : u = t
    · subst e
      simp
      rfl
    · have : V.int (u : Int) ≠ V.int (t : Int) := fun z => e (by have := V.int.inj z; omega)
      exact (decide_eq_false this).trans (by simp [e])
theorem scal_opt {h : Option Nat} {t : Nat} : scal (optV h) (natV t) = true := by cases h <;> rfl
theorem mapNat {l : List Nat} {i : Nat} {a : Nat} (e : l[i]? = some a) : (l.map natV)[i]? = some (natV a) := by
  rw [List.getElem?_map, e]
  rfl
section
variable {P : Program} {w : World} {K : PySem.W.Frag} {mg : PySem.Str → Option Value} {base : Heap}
def spWait (K : PySem.W.Frag) : Sp := sp4 fun u v z y H Q _ => ∃ S L p m n t x c l k q, u = .ref L.a ∧ v = natV t ∧ z = natV c ∧ y = natV l ∧ MW K H S L p m n ∧ m.threads[t]? = some x ∧ m.locks[l]? = some k ∧ m.queues[c]? = some q ∧ q.length < 2000000 ∧
  ∀ H' S', MW K H' S' L p (waitM m t x c l) n → Stp H S H' S' → Q .non H'
abbrev n_wait : List PySem.Str := ["machine", "number", "condition", "which", "thread"]
theorem sc_wait : FnScope n_wait ["machine", "number", "condition", "which"] d_wait.scope := ⟨rfl, rfl, rfl, by decide +kernel, rfl, by decide +kernel, by decide +kernel⟩
theorem c_wait (T : Tx w K mg) : Cal (CX0) P w K mg base 3 "wait" (spWait K) := by
  refine cal_mk T.fd_wait T.g_wait sc_wait (fun _ _ _ _ _ _ us hl => match us, hl with | [_, _, _, _], _ => rfl) (fun _ _ _ _ h => sp4_len h) (fun f cdv A outer s H vs Q E hr h => ?_)
  obtain ⟨_, _, _, _, rfl, S, L, p, m, n, t, x, c, l, k, qq, rfl, rfl, rfl, rfl, W, hx, hk, hq, small, q⟩ := h
  refine ⟨_, PSs.nox ((pss_cons (ps_set (i := 4) sc_wait.nd rfl (Or.inl rfl) (pe_ix ix_list (pe_fld (pv 0) rfl) (pv 1) (fun _ _ => rfl)))
      (pss_cons (ps_fldaug (pv 4) pe_int in_add)
      (pss_one (ps_if (pt_cmpR op_eq (pe_fld (pe_ix ix_list (pe_fld (pv 0) rfl) (pv 3) (fun _ _ => rfl)) rfl) (pv 1) (nomark _)) (pss_cons (ps_expr (pe_cal (c_free_lock T) hr (by decide) rfl passC (pa_cons (pv 0) (pa_cons (pv 1) (pa_cons (pe_ix ix_list (pe_fld (pv 0) rfl) (pv 3) (fun _ _ => rfl)) pa_nil)))))
      (pss_cons (ps_fld (pv 4) (pe_gi T.i_WAITING rfl) rfl)
      (pss_cons (ps_fld (pv 4) (pv 3) rfl)
      (pss_one (ps_expr (pe_bm PySem.F.plainAttrs_list PySem.F.slot_list_append PySem.F.type_list_append mt_append (pe_ix ix_list (pe_fld (pv 0) rfl) (pv 2) (fun _ _ => rfl)) (pa_cons (pv 1) pa_nil))))))) pss_nil))))), ?_⟩
  obtain ⟨dM, hM⟩ := W.mach
  obtain ⟨a, cr, d, dx, rg, pr, e1, e2, e3, TS, TH⟩ := W.thread hx
  obtain ⟨b, dl, od, fv, f, eb, LS, LH, LO⟩ := W.lock hk
  refine ⟨_, rfl, r_fld hM T.c_Machine T.n_Machine_threads mF_threads ⟨_, rfl, r_at (SqL.of W.tl) (mapRef e1) ?_⟩⟩
  refine ⟨_, rfl, W.augT hx e1 x.advance T.c_Thread T.n_Thread_place (fun _ _ _ _ => tF_place) (fun _ _ _ _ => tF_put_place) rfl rfl fun H1 S1 W1 s1 => ?_⟩
  have hx1 := setT_get (x := x.advance) hx
  have hk1 : (setT m t x.advance).locks[l]? = some k := hk
  obtain ⟨dM1, hM1⟩ := W1.mach
  obtain ⟨dl1, od1, fv1, f1, LS1, LH1, LO1⟩ := W1.lockA hk1 eb
  refine ⟨_, rfl, r_fld hM1 T.c_Machine T.n_Machine_locks mF_locks ⟨_, rfl, r_at (SqL.of W1.ll) (mapRef eb) (r_fld LH1 T.c_Lock T.n_Lock_holder lF_holder ⟨_, rfl, scal_opt, _, rfl, ?_⟩)⟩⟩
  rw [holds_at hk]
  cases hh : m.holds l t with
  | false =>
    refine if_f rfl (q H1 S1 ?_ s1)
    have : waitM m t x c l = setT m t x.advance := by unfold waitM; rw [hh]; rfl
    rw [this]
    exact W1
  | true =>
    refine if_t rfl ⟨_, rfl, _, rfl, _, rfl, r_fld hM1 T.c_Machine T.n_Machine_locks mF_locks ⟨_, rfl, r_at (SqL.of W1.ll) (mapRef eb) ⟨_, _, _, rfl, S1, L, p, _, n, t, x.advance, l, k, b, rfl, rfl, rfl, W1, hx1, hk1, eb, fun H2 S2 W2 s2 => ?_⟩⟩⟩
    have hx2 : (freeM (setT m t x.advance) t x.advance.clock l).threads[t]? = some x.advance := hx1
    refine ⟨_, rfl, W2.putT hx2 e1 { x.advance with mode := .waiting } T.c_Thread T.n_Thread_mode (fun _ _ _ _ => tF_put_mode (md := .waiting)) rfl rfl fun H3 S3 W3 s3 => ?_⟩
    have hx3 := setT_get (x := { x.advance with mode := .waiting }) hx2
    refine ⟨_, rfl, _, rfl, W3.putT hx3 e1 { x.advance with mode := .waiting, need := some l } T.c_Thread T.n_Thread_wanted (fun _ _ _ _ => tF_put_wanted (y := some l)) rfl rfl fun H4 S4 W4 s4 => ?_⟩
    rw [setT_setT] at W4
    obtain ⟨dM4, hM4⟩ := W4.mach
    have hq4 : (setT (freeM (setT m t x.advance) t x.advance.clock l) t { x.advance with mode := .waiting, need := some l }).queues[c]? = some qq := hq
    obtain ⟨qa, eq, QS, QH⟩ := W4.queue hq4
    refine ⟨_, rfl, r_fld hM4 T.c_Machine T.n_Machine_queues mF_queues ⟨_, rfl, r_at (SqL.of W4.ql) (mapRef eq) ⟨.inl ⟨rfl, _, SqL.of QH⟩, _, rfl, qa, _, _, rfl, rfl, QH, lt_line (by rw [List.length_map]; exact small), ?_⟩⟩⟩
    obtain ⟨S5, W5, s5⟩ := W4.queSet hq4 eq QS (qq ++ [t])
    have e4 : (qq ++ [t]).map natV = qq.map natV ++ [natV t] := by rw [List.map_append]; rfl
    rw [e4] at W5 s5
    refine q _ S5 ?_ (s1.trans (s2.trans (s3.trans (s4.trans s5))))
    have ew : waitM m t x c l = { setT (freeM (setT m t x.advance) t x.advance.clock l) t { x.advance with mode := .waiting, need := some l } with queues := m.queues.set c (qq ++ [t]) } := by
      unfold waitM freeM
      rw [hh, getD_some hq]
      simp [setT, R7285d.Spec.Machine.lockAt, R7285d.Spec.Thread.advance]
    rw [ew]
    exact W5
def spStart (K : PySem.W.Frag) : Sp := sp3 fun u v z H Q _ => ∃ S L p m n t x o y, u = .ref L.a ∧ v = natV t ∧ z = natV o ∧ MW K H S L p m n ∧ m.threads[t]? = some x ∧ x.mode = .running ∧ m.threads[o]? = some y ∧
  ∀ H' S', MW K H' S' L p (startM m t x o) n → Stp H S H' S' → Q .non H'
abbrev n_start : List PySem.Str := ["machine", "number", "which", "thread", "other"]
theorem sc_start : FnScope n_start ["machine", "number", "which"] d_start.scope := ⟨rfl, rfl, rfl, by decide +kernel, rfl, by decide +kernel, by decide +kernel⟩
theorem c_start (T : Tx w K mg) : Cal (CX0) P w K mg base 1 "start" (spStart K) := by
  refine cal_mk T.fd_start T.g_start sc_start (fun _ _ _ _ _ _ us hl => match us, hl with | [_, _, _], _ => rfl) (fun _ _ _ _ h => sp3_len h) (fun f cdv A outer s H vs Q E hr h => ?_)
  obtain ⟨_, _, _, rfl, S, L, p, m, n, t, x, o, y, rfl, rfl, rfl, W, hx, hr, hy, q⟩ := h
  refine ⟨_, PSs.nox ((pss_cons (ps_set (i := 3) sc_start.nd rfl (Or.inl rfl) (pe_ix ix_list (pe_fld (pv 0) rfl) (pv 1) (fun _ _ => rfl)))
      (pss_cons (ps_fldaug (pv 3) pe_int in_add)
      (pss_cons (ps_set (i := 4) sc_start.nd rfl (Or.inl rfl) (pe_ix ix_list (pe_fld (pv 0) rfl) (pv 2) (fun _ _ => rfl)))
      (pss_one (ps_if (pt_cmpR op_eq (pe_fld (pv 4) rfl) (pe_gi T.i_IDLE rfl) (nomark _)) (pss_cons (ps_fld (pv 4) (pe_gi T.i_RUNNING rfl) rfl)
      (pss_one (ps_fld (pv 4) (pe_op op_add (pe_fld (pv 3) rfl) pe_int) rfl))) pss_nil)))))), ?_⟩
  obtain ⟨dM, hM⟩ := W.mach
  obtain ⟨a, cr, d, dx, rg, pr, e1, e2, e3, TS, TH⟩ := W.thread hx
  refine ⟨_, rfl, r_fld hM T.c_Machine T.n_Machine_threads mF_threads ⟨_, rfl, r_at (SqL.of W.tl) (mapRef e1) ?_⟩⟩
  refine ⟨_, rfl, W.augT hx e1 x.advance T.c_Thread T.n_Thread_place (fun _ _ _ _ => tF_place) (fun _ _ _ _ => tF_put_place) rfl rfl fun H1 S1 W1 s1 => ?_⟩
  have hx1 := setT_get (x := x.advance) hx
  obtain ⟨dM1, hM1⟩ := W1.mach
  obtain ⟨y1, hy1, hm1⟩ : ∃ y1, (setT m t x.advance).threads[o]? = some y1 ∧ (o = t ∧ y1 = x.advance ∨ o ≠ t ∧ y1 = y) := by
    by_cases e : o = t
    · subst e
      exact ⟨_, hx1, .inl ⟨rfl, rfl⟩⟩
    · exact ⟨y, by rw [setT_ne e]; exact hy, .inr ⟨e, rfl⟩⟩
  obtain ⟨a2, cr2, d2, dx2, rg2, pr2, f1, f2, f3, TS2, TH2⟩ := W1.thread hy1
  refine ⟨_, rfl, r_fld hM1 T.c_Machine T.n_Machine_threads mF_threads ⟨_, rfl, r_at (SqL.of W1.tl) (mapRef f1) ?_⟩⟩
  refine ⟨_, rfl, W1.fldT hy1 f1 T.c_Thread T.n_Thread_mode (fun _ _ _ _ => tF_mode) ⟨rfl, _, rfl, ?_⟩⟩
  rw [mode_0]
  cases hi : y1.mode.isIdle with
  | false =>
    refine if_f rfl (q _ S1 ?_ s1)
    have : startM m t x o = setT m t x.advance := by
      unfold startM
      rw [hy]
      rcases hm1 with ⟨rfl, e⟩ | ⟨e, rfl⟩
      · rw [hx] at hy
        cases hy
        simp only [hr]
        rfl
      · simp only [hi]
        rfl
    rw [this]
    exact W1
  | true =>
    rcases hm1 with ⟨rfl, e⟩ | ⟨e, rfl⟩
    · rw [e] at hi
      have : x.advance.mode = .running := hr
      rw [this] at hi
      cases hi
    refine if_t rfl ⟨_, rfl, W1.putT hy1 f1 { y1 with mode := .running } T.c_Thread T.n_Thread_mode (fun _ _ _ _ => tF_put_mode (md := .running)) rfl rfl fun H2 S2 W2 s2 => ?_⟩
    have hx2 : (setT (setT m t x.advance) o { y1 with mode := .running }).threads[t]? = some x.advance := by rw [setT_ne (Ne.symm e)]; exact hx1
    have hy2 := setT_get (x := { y1 with mode := .running }) hy1
    refine ⟨_, rfl, W2.fldT hx2 e1 T.c_Thread T.n_Thread_clock (fun _ _ _ _ => tF_clock) ⟨_, _, rfl, rfl, ?_⟩⟩
    refine ⟨_, rfl, W2.putT hy2 f1 { y1 with mode := .running, clock := x.clock + 1 } T.c_Thread T.n_Thread_clock (fun _ _ _ _ => tF_put_clock (y := x.clock + 1)) rfl rfl fun H3 S3 W3 s3 => ?_⟩
    rw [setT_setT] at W3
    refine q _ S3 ?_ (s1.trans (s2.trans s3))
    have : startM m t x o = setT (setT m t x.advance) o { y1 with mode := .running, clock := x.clock + 1 } := by
      unfold startM
      rw [hy]
      simp only [hi]
      rfl
    rw [this]
    exact W3
end
end CT


namespace CT
open PySem PySem.Spec PyProof.Rows L2
section
variable {P : Program} {w : World} {K : PySem.W.Frag} {mg : PySem.Str → Option Value} {base : Heap}
def spWake (K : PySem.W.Frag) : Sp := sp3 fun u v z H Q _ => ∃ S L p m n t x c q, u = .ref L.a ∧ v = natV t ∧ z = natV c ∧ MW K H S L p m n ∧ m.threads[t]? = some x ∧ x.mode = .running ∧ m.queues[c]? = some q ∧ (∀ o ∈ q, ∃ y, m.threads[o]? = some y ∧ y.mode = .waiting) ∧
  ∀ H' S', MW K H' S' L p (wakeM m t x c) n → Stp H S H' S' → Q .non H'
abbrev n_wake : List PySem.Str := ["machine", "number", "condition", "thread", "other"]
theorem sc_wake : FnScope n_wake ["machine", "number", "condition"] d_wake.scope := ⟨rfl, rfl, rfl, by decide +kernel, rfl, by decide +kernel, by decide +kernel⟩
theorem c_wake (T : Tx w K mg) : Cal (CX0) P w K mg base 1 "wake" (spWake K) := by
  refine cal_mk T.fd_wake T.g_wake sc_wake (fun _ _ _ _ _ _ us hl => match us, hl with | [_, _, _], _ => rfl) (fun _ _ _ _ h => sp3_len h) (fun f cdv A outer s H vs Q E hr h => ?_)
  obtain ⟨_, _, _, rfl, S, L, p, m, n, t, x, c, qq, rfl, rfl, rfl, W, hx, hr, hq, hw, q⟩ := h
  refine ⟨_, PSs.nox ((pss_cons (ps_set (i := 3) sc_wake.nd rfl (Or.inl rfl) (pe_ix ix_list (pe_fld (pv 0) rfl) (pv 1) (fun _ _ => rfl)))
      (pss_cons (ps_fldaug (pv 3) pe_int in_add)
      (pss_one (ps_if (pt_cmpR op_gt (pe_callB call_len_seq rfl T.f_len boot_len (pa_cons (pe_ix ix_list (pe_fld (pv 0) rfl) (pv 2) (fun _ _ => rfl)) pa_nil)) pe_int (nomark _)) (pss_cons (ps_set (i := 4) sc_wake.nd rfl (Or.inl rfl) (pe_ix ix_list (pe_fld (pv 0) rfl) (pe_bm PySem.F.plainAttrs_list PySem.F.slot_list_pop PySem.F.type_list_pop mt_popAt (pe_ix ix_list (pe_fld (pv 0) rfl) (pv 2) (fun _ _ => rfl)) (pa_cons pe_int pa_nil)) (fun _ _ => rfl)))
      (pss_cons (ps_fld (pv 4) (pe_gi T.i_RUNNING rfl) rfl)
      (pss_one (ps_if (pt_cmpR op_le (pe_fld (pv 4) rfl) (pe_fld (pv 3) rfl) (nomark _)) (pss_one (ps_fld (pv 4) (pe_op op_add (pe_fld (pv 3) rfl) pe_int) rfl)) pss_nil)))) pss_nil))))), ?_⟩
  obtain ⟨dM, hM⟩ := W.mach
  obtain ⟨a, cr, d, dx, rg, pr, e1, e2, e3, TS, TH⟩ := W.thread hx
  refine ⟨_, rfl, r_fld hM T.c_Machine T.n_Machine_threads mF_threads ⟨_, rfl, r_at (SqL.of W.tl) (mapRef e1) ?_⟩⟩
  refine ⟨_, rfl, W.augT hx e1 x.advance T.c_Thread T.n_Thread_place (fun _ _ _ _ => tF_place) (fun _ _ _ _ => tF_put_place) rfl rfl fun H1 S1 W1 s1 => ?_⟩
  have hx1 := setT_get (x := x.advance) hx
  obtain ⟨dM1, hM1⟩ := W1.mach
  have hq1 : (setT m t x.advance).queues[c]? = some qq := hq
  obtain ⟨qa, eq, QS, QH⟩ := W1.queue hq1
  refine ⟨_, rfl, r_fld hM1 T.c_Machine T.n_Machine_queues mF_queues ⟨_, rfl, r_at (SqL.of W1.ql) (mapRef eq) ⟨qa, _, rfl, .inl (SqL.of QH), _, _, rfl, rfl, _, rfl, ?_⟩⟩⟩
  cases qq with
  | nil =>
    refine if_f rfl (q _ S1 ?_ s1)
    have : wakeM m t x c = setT m t x.advance := by
      unfold wakeM
      rw [getD_some hq]
    rw [this]
    exact W1
  | cons o r =>
    obtain ⟨y, hy, my⟩ := hw o (List.mem_cons_self ..)
    have ot : o ≠ t := fun e => by
      subst e
      rw [hx] at hy
      cases hy
      rw [hr] at my
      cases my
    refine if_t (by rw [decide_eq_true_eq]; simp) ?_
    refine ⟨_, rfl, r_fld hM1 T.c_Machine T.n_Machine_threads mF_threads ?_⟩
    refine ⟨_, rfl, r_fld hM1 T.c_Machine T.n_Machine_queues mF_queues ⟨_, rfl, r_at (SqL.of W1.ql) (mapRef eq) ⟨.inl ⟨rfl, _, SqL.of QH⟩, qa, _, 0, 0, natV o, rfl, rfl, QH, by decide, by decide, by unfold seqIndex?; simp, rfl, ?_⟩⟩⟩
    obtain ⟨S2, W2, s2⟩ := W1.queSet hq1 eq QS r
    have hy2 : ({ setT m t x.advance with queues := (setT m t x.advance).queues.set c r } : Mach).threads[o]? = some y := by
      show (setT m t x.advance).threads[o]? = _
      rw [setT_ne ot]
      exact hy
    have hx2 : ({ setT m t x.advance with queues := (setT m t x.advance).queues.set c r } : Mach).threads[t]? = some x.advance := hx1
    obtain ⟨a2, cr2, d2, dx2, rg2, pr2, f1, f2, f3, TS2, TH2⟩ := W2.thread hy2
    refine r_at (SqL.of W2.tl) (mapRef f1) ?_
    refine ⟨_, rfl, W2.putT hy2 f1 { y with mode := .running } T.c_Thread T.n_Thread_mode (fun _ _ _ _ => tF_put_mode (md := .running)) rfl rfl fun H3 S3 W3 s3 => ?_⟩
    have hy3 := setT_get (x := { y with mode := .running }) hy2
    have hx3 : (setT ({ setT m t x.advance with queues := (setT m t x.advance).queues.set c r } : Mach) o { y with mode := .running }).threads[t]? = some x.advance := by rw [setT_ne (Ne.symm ot)]; exact hx2
    have ew : ∀ z : Thr, z = woken y x.clock → wakeM m t x c = setT ({ setT m t x.advance with queues := (setT m t x.advance).queues.set c r } : Mach) o z := fun z ez => by
      unfold wakeM
      rw [getD_some hq]
      simp only [hy, ez]
      rfl
    refine ⟨_, rfl, W3.fldT hy3 f1 T.c_Thread T.n_Thread_clock (fun _ _ _ _ => tF_clock) ⟨_, rfl, W3.fldT hx3 e1 T.c_Thread T.n_Thread_clock (fun _ _ _ _ => tF_clock) ⟨_, _, rfl, rfl, _, rfl, ?_⟩⟩⟩
    by_cases le : y.clock ≤ x.clock
    · refine if_t (by rw [decide_eq_true_eq]; exact Int.ofNat_le.mpr le) ?_
      refine ⟨_, rfl, W3.fldT hx3 e1 T.c_Thread T.n_Thread_clock (fun _ _ _ _ => tF_clock) ⟨_, _, rfl, rfl, ?_⟩⟩
      refine ⟨_, rfl, W3.putT hy3 f1 { y with mode := .running, clock := x.clock + 1 } T.c_Thread T.n_Thread_clock (fun _ _ _ _ => tF_put_clock (y := x.clock + 1)) rfl rfl fun H4 S4 W4 s4 => ?_⟩
      rw [setT_setT] at W4
      refine q _ S4 ?_ (s1.trans (s2.trans (s3.trans s4)))
      rw [ew { y with mode := .running, clock := x.clock + 1 } (by unfold woken; rw [show Nat.max y.clock (x.clock + 1) = x.clock + 1 from Nat.max_eq_right (by omega)])]
      exact W4
    · refine if_f (decide_eq_false (fun z => le (Int.ofNat_le.mp z))) (q _ S3 ?_ (s1.trans (s2.trans s3)))
      rw [ew { y with mode := .running } (by unfold woken; rw [show Nat.max y.clock (x.clock + 1) = y.clock from Nat.max_eq_left (by omega)])]
      exact W3
def spJoin (K : PySem.W.Frag) : Sp := sp3 fun u v z H Q _ => ∃ S L p m n t x o y, u = .ref L.a ∧ v = natV t ∧ z = natV o ∧ MW K H S L p m n ∧ m.threads[t]? = some x ∧ m.threads[o]? = some y ∧
  ∀ H', Goes K L p H S H' (joinM m t x o) n → Q .non H'
abbrev n_join : List PySem.Str := ["machine", "number", "which"]
theorem sc_join : FnScope n_join ["machine", "number", "which"] d_join.scope := ⟨rfl, rfl, rfl, by decide +kernel, rfl, by decide +kernel, by decide +kernel⟩
theorem c_join (T : Tx w K mg) : Cal (CX0) P w K mg base 2 "join" (spJoin K) := by
  refine cal_mk T.fd_join T.g_join sc_join (fun _ _ _ _ _ _ us hl => match us, hl with | [_, _, _], _ => rfl) (fun _ _ _ _ h => sp3_len h) (fun f cdv A outer s H vs Q E hr h => ?_)
  obtain ⟨_, _, _, rfl, S, L, p, m, n, t, x, o, y, rfl, rfl, rfl, W, hx, hy, q⟩ := h
  refine ⟨_, PSs.nox ((pss_one (ps_if (PW.pt (pw_and (pt_cmpR op_eq (pe_fld (pe_ix ix_list (pe_fld (pv 0) rfl) (pv 2) (fun _ _ => rfl)) rfl) (pe_gi T.i_ENDED rfl) (nomark _)) (pw_and1 (pt_cmpR (op_ltT hr.units0) (pe_cal (c_time_of T) hr (by decide) rfl passC (pa_cons (pv 0) (pa_cons (pv 2) pa_nil))) (pe_cal (c_time_of T) hr (by decide) rfl passC (pa_cons (pv 0) (pa_cons (pv 1) pa_nil))) (nomark _))))) (pss_one (ps_fldaug (pe_ix ix_list (pe_fld (pv 0) rfl) (pv 1) (fun _ _ => rfl)) pe_int in_add)) pss_nil))), ?_⟩
  obtain ⟨dM, hM⟩ := W.mach
  obtain ⟨a, cr, d, dx, rg, pr, e1, e2, e3, TS, TH⟩ := W.thread hx
  obtain ⟨a2, cr2, d2, dx2, rg2, pr2, f1, f2, f3, TS2, TH2⟩ := W.thread hy
  have ov : m.isOver o (x.clock, t) = (y.mode.isEnded && R7285d.Spec.earlier (y.clock, o) (x.clock, t)) := by
    unfold R7285d.Spec.Machine.isOver
    rw [hy]
    rfl
  refine ⟨_, rfl, r_fld hM T.c_Machine T.n_Machine_threads mF_threads ⟨_, rfl, r_at (SqL.of W.tl) (mapRef f1) ?_⟩⟩
  refine r_fld TH2.ins T.c_Thread T.n_Thread_mode tF_mode ⟨rfl, _, rfl, ?_⟩
  rw [mode_3]
  cases me : y.mode.isEnded with
  | false =>
    rw [me] at ov
    refine if_f rfl (if_f rfl (q H ?_))
    unfold joinM
    rw [ov]
    exact Goes.refl W
  | true =>
    rw [me] at ov
    refine if_t rfl ?_
    refine ⟨_, rfl, _, rfl, _, _, rfl, S, L, p, m, n, o, y, rfl, rfl, W, hy, fun b nb => ?_⟩
    have s1 : Same H (upd H b (.tup [natV y.clock, natV o])) := same_new nb
    have W1 := W.same s1
    refine ⟨_, rfl, _, rfl, _, _, rfl, S, L, p, m, n, t, x, rfl, rfl, W1, hx, fun c nc => ?_⟩
    have s2 : Same _ (upd (upd H b (.tup [natV y.clock, natV o])) c (.tup [natV x.clock, natV t])) := same_new nc
    have W2 := W1.same s2
    refine ⟨b, c, [(y.clock : Int), (o : Int)], [(x.clock : Int), (t : Int)], rfl, rfl, SqT.of (s2 _ _ upd_same), SqT.of upd_same, _, rfl, ?_⟩
    rw [lex2]
    cases he : R7285d.Spec.earlier (y.clock, o) (x.clock, t) with
    | false =>
      rw [he] at ov
      refine if_f rfl (q _ ?_)
      unfold joinM
      rw [ov]
      exact ⟨S, W2, Stp.same (s1.trans s2)⟩
    | true =>
      rw [he] at ov
      obtain ⟨dM2, hM2⟩ := W2.mach
      refine if_t rfl ⟨_, rfl, r_fld hM2 T.c_Machine T.n_Machine_threads mF_threads ⟨_, rfl, r_at (SqL.of W2.tl) (mapRef e1) ?_⟩⟩
      refine W2.augT hx e1 x.advance T.c_Thread T.n_Thread_place (fun _ _ _ _ => tF_place) (fun _ _ _ _ => tF_put_place) rfl rfl fun H3 S3 W3 s3 => q _ ?_
      unfold joinM
      rw [ov]
      exact ⟨S3, W3, (Stp.same (s1.trans s2)).trans s3⟩
end
end CT


namespace CT
open PySem PySem.Spec PyProof.Rows L2
theorem r_is {o : Option (Option V)} {s t : PySem.Str} {A B : Prop} (e : o = some (some (V.str s))) (h : decide (V.str s = V.str t) = true) (q : A) : ∃ v, o = some (some v) ∧ scal v (V.str t) = true ∧ ∃ k, V.bl (decide (v = V.str t)) = V.bl k ∧ if k = true then A else B := ⟨_, e, rfl, _, rfl, if_t h q⟩
theorem r_no {o : Option (Option V)} {s t : PySem.Str} {A B : Prop} (e : o = some (some (V.str s))) (h : decide (V.str s = V.str t) = false) (q : B) : ∃ v, o = some (some v) ∧ scal v (V.str t) = true ∧ ∃ k, V.bl (decide (v = V.str t)) = V.bl k ∧ if k = true then A else B := ⟨_, e, rfl, _, rfl, if_f h q⟩
section
variable {K : PySem.W.Frag} {H : Hp} {a : Addr} {v v0 v1 : V} {xs : List V}
theorem r_i0 {Q : V → Prop} (h : H a = some (.lst (v :: xs))) (q : Q v) : ∃ p ys j u, V.ref a = .ref p ∧ V.int 0 = .int j ∧ SqL K H p ys ∧ atI ys j = some u ∧ Q u := ⟨a, _, 0, v, rfl, rfl, SqL.of h, atI_nat (j := 0) rfl, q⟩
theorem r_i1 {Q : V → Prop} (h : H a = some (.lst (v0 :: v :: xs))) (q : Q v) : ∃ p ys j u, V.ref a = .ref p ∧ V.int 1 = .int j ∧ SqL K H p ys ∧ atI ys j = some u ∧ Q u := ⟨a, _, 1, v, rfl, rfl, SqL.of h, atI_nat (j := 1) rfl, q⟩
theorem r_i2 {Q : V → Prop} (h : H a = some (.lst (v0 :: v1 :: v :: xs))) (q : Q v) : ∃ p ys j u, V.ref a = .ref p ∧ V.int 2 = .int j ∧ SqL K H p ys ∧ atI ys j = some u ∧ Q u := ⟨a, _, 2, v, rfl, rfl, SqL.of h, atI_nat (j := 2) rfl, q⟩
end
section
variable {K : PySem.W.Frag} {H : Hp} {S : MP → Hp} {L : Lay} {p : Prog} {m : Mach} {n : Nat} {k : Nat} {x : Thr} {a : Addr}
theorem reg_get (hl : x.regs.length = 4) {r : Nat} (h : r < 4) : x.regs[r]? = some (x.reg r) := by
  unfold R7285d.Spec.Thread.reg
  rw [List.getD_eq_getElem?_getD]
  have : r < x.regs.length := by omega
  simp [this]
theorem r_reg (W : MW K H S L p m n) (hx : m.threads[k]? = some x) {cr : Addr} {d : R7285d.Spec.ThreadD} {dx rg pr : Addr} (e1 : L.ta[k]? = some a) (e2 : L.crs[k]? = some cr) (e3 : p.threads[k]? = some d) (T : ThAt K (S (.thr k)) a cr d.weight x dx rg pr) (TH : ThAt K H a cr d.weight x dx rg pr)
    (hl : x.regs.length = 4) {r : Nat} (hr : r < 4) (z : Int) {Q : Hp → Prop} (q : ∀ H1, Goes K L p H S H1 (setT m k { x with regs := x.regs.set r z }) n → Q H1) :
    ∃ p' xs i j, V.ref rg = .ref p' ∧ natV r = .int i ∧ H p' = some (.lst xs) ∧ ixN xs.length i = some j ∧ Q (upd H p' (.lst (xs.set j (.int z)))) := by
  refine ⟨rg, _, _, r, rfl, rfl, TH.regs, ixN_nat (by rw [List.length_map]; omega), ?_⟩
  rw [set_map]
  exact q _ (W.thrRegs hx e1 e2 e3 T _)
end
/-- an instruction that reckons, of a machine with so many shared variables -/
def RkOk (s : Nat) : Ins → Prop
  | .const r _ => r < 4
  | .add r a b => r < 4 ∧ a < 4 ∧ b < 4
  | .sub r a b => r < 4 ∧ a < 4 ∧ b < 4
  | .less r a b => r < 4 ∧ a < 4 ∧ b < 4
  | .load r v => r < 4 ∧ v < s
  | .store v r => v < s ∧ r < 4
  | .print r => r < 4
  | _ => False
section
variable {P : Program} {w : World} {K : PySem.W.Frag} {mg : PySem.Str → Option Value} {base : Heap}
def spReckon (K : PySem.W.Frag) : Sp := sp4 fun u v z y H Q _ => ∃ S L p m n t x i nl a, u = .ref L.a ∧ v = .ref a ∧ z = .str (insName i) ∧ y = .ref nl ∧ MW K H S L p m n ∧ m.threads[t]? = some x ∧ L.ta[t]? = some a ∧ RkOk m.shared.length i ∧
  H nl = some (.lst ((insNums i).map V.int)) ∧ x.regs.length = 4 ∧ x.out.length < 2000000 ∧ ∀ H', Goes K L p H S H' (reckM m t x i) n → Q .non H'
abbrev n_reckon : List PySem.Str := ["machine", "thread", "word", "numbers", "registers"]
theorem sc_reckon : FnScope n_reckon ["machine", "thread", "word", "numbers"] d_reckon.scope := ⟨rfl, rfl, rfl, by decide +kernel, rfl, by decide +kernel, by decide +kernel⟩
theorem c_reckon (T : Tx w K mg) : Cal (CX0) P w K mg base 2 "reckon" (spReckon K) := by
  refine cal_mk T.fd_reckon T.g_reckon sc_reckon (fun _ _ _ _ _ _ us hl => match us, hl with | [_, _, _, _], _ => rfl) (fun _ _ _ _ h => sp4_len h) (fun f cdv A outer s H vs Q E hr h => ?_)
  obtain ⟨_, _, _, _, rfl, S, L, p, m, n, t, x, i, nl, a, rfl, rfl, rfl, rfl, W, hx, e1, ok, hn, hl, small, q⟩ := h
  refine ⟨_, PSs.nox ((pss_cons (ps_set (i := 4) sc_reckon.nd rfl (Or.inl rfl) (pe_fld (pv 1) rfl))
      (pss_one (ps_if (pt_cmpR op_eq (pv 2) pe_str (nomark _)) (pss_one (ps_asg (pe_ix ix_list (pv 3) pe_int (fun _ _ => rfl)) (pg_sub (pv 4) (pe_ix ix_list (pv 3) pe_int (fun _ _ => rfl)) set_list))) (pss_one (ps_if (pt_cmpR op_eq (pv 2) pe_str (nomark _)) (pss_one (ps_asg (pe_cal (c_wrapped T) hr (by decide) rfl passC (pa_cons (pe_op op_add (pe_ix ix_list (pv 4) (pe_ix ix_list (pv 3) pe_int (fun _ _ => rfl)) (fun _ _ => rfl)) (pe_ix ix_list (pv 4) (pe_ix ix_list (pv 3) pe_int (fun _ _ => rfl)) (fun _ _ => rfl))) pa_nil)) (pg_sub (pv 4) (pe_ix ix_list (pv 3) pe_int (fun _ _ => rfl)) set_list))) (pss_one (ps_if (pt_cmpR op_eq (pv 2) pe_str (nomark _)) (pss_one (ps_asg (pe_cal (c_wrapped T) hr (by decide) rfl passC (pa_cons (pe_op op_sub (pe_ix ix_list (pv 4) (pe_ix ix_list (pv 3) pe_int (fun _ _ => rfl)) (fun _ _ => rfl)) (pe_ix ix_list (pv 4) (pe_ix ix_list (pv 3) pe_int (fun _ _ => rfl)) (fun _ _ => rfl))) pa_nil)) (pg_sub (pv 4) (pe_ix ix_list (pv 3) pe_int (fun _ _ => rfl)) set_list))) (pss_one (ps_if (pt_cmpR op_eq (pv 2) pe_str (nomark _)) (pss_one (ps_asg (pe_ifExp (pt_cmpR op_lt (pe_ix ix_list (pv 4) (pe_ix ix_list (pv 3) pe_int (fun _ _ => rfl)) (fun _ _ => rfl)) (pe_ix ix_list (pv 4) (pe_ix ix_list (pv 3) pe_int (fun _ _ => rfl)) (fun _ _ => rfl)) (nomark _)) pe_int pe_int) (pg_sub (pv 4) (pe_ix ix_list (pv 3) pe_int (fun _ _ => rfl)) set_list))) (pss_one (ps_if (pt_cmpR op_eq (pv 2) pe_str (nomark _)) (pss_one (ps_asg (pe_ix ix_list (pe_fld (pv 0) rfl) (pe_ix ix_list (pv 3) pe_int (fun _ _ => rfl)) (fun _ _ => rfl)) (pg_sub (pv 4) (pe_ix ix_list (pv 3) pe_int (fun _ _ => rfl)) set_list))) (pss_one (ps_if (pt_cmpR op_eq (pv 2) pe_str (nomark _)) (pss_one (ps_asg (pe_ix ix_list (pv 4) (pe_ix ix_list (pv 3) pe_int (fun _ _ => rfl)) (fun _ _ => rfl)) (pg_sub (pe_fld (pv 0) rfl) (pe_ix ix_list (pv 3) pe_int (fun _ _ => rfl)) set_list))) (pss_one (ps_if (pt_cmpR op_eq (pv 2) pe_str (nomark _)) (pss_one (ps_expr (pe_bm PySem.F.plainAttrs_list PySem.F.slot_list_append PySem.F.type_list_append mt_append (pe_fld (pv 1) rfl) (pa_cons (pe_ix ix_list (pv 4) (pe_ix ix_list (pv 3) pe_int (fun _ _ => rfl)) (fun _ _ => rfl)) pa_nil)))) pss_nil)))))))))))))))), ?_⟩
  obtain ⟨dM, hM⟩ := W.mach
  obtain ⟨cr, d, dx, rg, pr, e2, e3, TS, TH⟩ := W.threadA hx e1
  refine ⟨_, rfl, r_fld TH.ins T.c_Thread T.n_Thread_registers tF_registers ?_⟩
  cases i with
  | const r z =>
    refine r_is rfl ?_ ?_
    · kernel_rfl
    refine ⟨_, rfl, r_i1 hn ⟨_, rfl, _, rfl, r_i0 hn ?_⟩⟩
    exact r_reg W hx e1 e2 e3 TS TH hl ok z q
  | add r u v =>
    refine r_no rfl ?_ ?_
    · kernel_rfl
    refine r_is rfl ?_ ?_
    · kernel_rfl
    obtain ⟨o1, o2, o3⟩ := ok
    refine ⟨_, rfl, _, rfl, r_i1 hn (r_at (SqL.of TH.regs) (mapInt (reg_get hl o2)) ?_)⟩
    refine ⟨_, rfl, _, rfl, r_i2 hn (r_at (SqL.of TH.regs) (mapInt (reg_get hl o3)) ⟨_, _, rfl, rfl, _, rfl, _, rfl, _, rfl, _, rfl, r_i0 hn ?_⟩)⟩
    exact r_reg W hx e1 e2 e3 TS TH hl o1 _ q
  | sub r u v =>
    refine r_no rfl ?_ ?_
    · kernel_rfl
    refine r_no rfl ?_ ?_
    · kernel_rfl
    refine r_is rfl ?_ ?_
    · kernel_rfl
    obtain ⟨o1, o2, o3⟩ := ok
    refine ⟨_, rfl, _, rfl, r_i1 hn (r_at (SqL.of TH.regs) (mapInt (reg_get hl o2)) ?_)⟩
    refine ⟨_, rfl, _, rfl, r_i2 hn (r_at (SqL.of TH.regs) (mapInt (reg_get hl o3)) ⟨_, _, rfl, rfl, _, rfl, _, rfl, _, rfl, _, rfl, r_i0 hn ?_⟩)⟩
    exact r_reg W hx e1 e2 e3 TS TH hl o1 _ q
  | less r u v =>
    refine r_no rfl ?_ ?_
    · kernel_rfl
    refine r_no rfl ?_ ?_
    · kernel_rfl
    refine r_no rfl ?_ ?_
    · kernel_rfl
    refine r_is rfl ?_ ?_
    · kernel_rfl
    obtain ⟨o1, o2, o3⟩ := ok
    refine ⟨_, rfl, _, rfl, r_i1 hn (r_at (SqL.of TH.regs) (mapInt (reg_get hl o2)) ?_)⟩
    refine ⟨_, rfl, _, rfl, r_i2 hn (r_at (SqL.of TH.regs) (mapInt (reg_get hl o3)) ⟨_, _, rfl, rfl, _, rfl, ?_⟩)⟩
    have e : reckM m t x (.less r u v) = setT m t { x with regs := x.regs.set r (if x.reg u < x.reg v then 1 else 0) } := rfl
    by_cases c : x.reg u < x.reg v
    · refine if_t (decide_eq_true c) ⟨_, rfl, _, rfl, r_i0 hn ?_⟩
      rw [e, if_pos c] at q
      exact r_reg W hx e1 e2 e3 TS TH hl o1 _ q
    · refine if_f (decide_eq_false c) ⟨_, rfl, _, rfl, r_i0 hn ?_⟩
      rw [e, if_neg c] at q
      exact r_reg W hx e1 e2 e3 TS TH hl o1 _ q
  | load r v =>
    refine r_no rfl ?_ ?_
    · kernel_rfl
    refine r_no rfl ?_ ?_
    · kernel_rfl
    refine r_no rfl ?_ ?_
    · kernel_rfl
    refine r_no rfl ?_ ?_
    · kernel_rfl
    refine r_is rfl ?_ ?_
    · kernel_rfl
    obtain ⟨o1, o2⟩ := ok
    have g : m.shared[v]? = some (m.shared.getD v 0) := by rw [List.getD_eq_getElem?_getD]; simp [o2]
    refine ⟨_, rfl, r_fld hM T.c_Machine T.n_Machine_contents mF_contents ⟨_, rfl, r_i1 hn (r_at (SqL.of W.ct) (mapInt g) ⟨_, rfl, _, rfl, r_i0 hn ?_⟩)⟩⟩
    exact r_reg W hx e1 e2 e3 TS TH hl o1 _ q
  | store v r =>
    refine r_no rfl ?_ ?_
    · kernel_rfl
    refine r_no rfl ?_ ?_
    · kernel_rfl
    refine r_no rfl ?_ ?_
    · kernel_rfl
    refine r_no rfl ?_ ?_
    · kernel_rfl
    refine r_no rfl ?_ ?_
    · kernel_rfl
    refine r_is rfl ?_ ?_
    · kernel_rfl
    obtain ⟨o1, o2⟩ := ok
    refine ⟨_, rfl, _, rfl, r_i1 hn (r_at (SqL.of TH.regs) (mapInt (reg_get hl o2)) ⟨_, rfl, r_fld hM T.c_Machine T.n_Machine_contents mF_contents ⟨_, rfl, r_i0 hn ?_⟩⟩)⟩
    refine ⟨L.ct, _, _, v, rfl, rfl, W.ct, ixN_nat (by rw [List.length_map]; exact o1), ?_⟩
    rw [set_map]
    exact q _ (W.contSet _)
  | print r =>
    refine r_no rfl ?_ ?_
    · kernel_rfl
    refine r_no rfl ?_ ?_
    · kernel_rfl
    refine r_no rfl ?_ ?_
    · kernel_rfl
    refine r_no rfl ?_ ?_
    · kernel_rfl
    refine r_no rfl ?_ ?_
    · kernel_rfl
    refine r_no rfl ?_ ?_
    · kernel_rfl
    refine r_is rfl ?_ ?_
    · kernel_rfl
    refine ⟨_, rfl, r_fld TH.ins T.c_Thread T.n_Thread_printed tF_printed ⟨.inl ⟨rfl, _, SqL.of TH.out⟩, _, rfl, _, rfl, r_i0 hn (r_at (SqL.of TH.regs) (mapInt (reg_get hl ok)) ⟨pr, _, _, rfl, rfl, TH.out, lt_line (by rw [List.length_map]; exact small), ?_⟩)⟩⟩
    have G := W.thrOut hx e1 e2 e3 TS (x.out ++ [x.reg r])
    rw [List.map_append] at G
    exact q _ G
  | _ => exact ok.elim
end
end CT


namespace CT
open PySem PySem.Spec PyProof.Rows L2
def meetM (m : Mach) (t : Nat) (x : Thr) : Ins → Mach
  | .lock l => takeM m t x l
  | .unlock l => unlockM m t x l
  | .wait c l => waitM m t x c l
  | .wake c => wakeM m t x c
  | .start u => startM m t x u
  | .join u => joinM m t x u
  | _ => m
def MtOk (m : Mach) : Ins → Prop
  | .lock l => l < m.locks.length
  | .unlock l => l < m.locks.length
  | .wait c l => c < m.queues.length ∧ l < m.locks.length
  | .wake c => c < m.queues.length
  | .start u => u < m.threads.length
  | .join u => u < m.threads.length
  | _ => False
structure Sml (m : Mach) : Prop where
  order : ∀ (l : Nat) (k : Lck), m.locks[l]? = some k → k.order.length < 2000000
  qlen : ∀ (c : Nat) (q : List Nat), m.queues[c]? = some q → q.length < 2000000
  wait : ∀ (c : Nat) (q : List Nat) (u : Nat), m.queues[c]? = some q → u ∈ q → ∃ y, m.threads[u]? = some y ∧ y.mode = .waiting
theorem get_lt {α : Type} {l : List α} {i : Nat} (h : i < l.length) : ∃ a, l[i]? = some a := ⟨l[i], by simp [h]⟩
section
variable {P : Program} {w : World} {K : PySem.W.Frag} {mg : PySem.Str → Option Value} {base : Heap}
def spMeet (K : PySem.W.Frag) : Sp := sp4 fun u v z y H Q _ => ∃ S L p m n t x i nl, u = .ref L.a ∧ v = natV t ∧ z = .str (insName i) ∧ y = .ref nl ∧ MW K H S L p m n ∧ m.threads[t]? = some x ∧ x.mode = .running ∧ MtOk m i ∧ Sml m ∧
  H nl = some (.lst ((insNums i).map V.int)) ∧ (∀ q, S q nl = none) ∧ ∀ H', Goes K L p H S H' (meetM m t x i) n → Q .non H'
abbrev n_meet : List PySem.Str := ["machine", "number", "word", "numbers"]
theorem sc_meet : FnScope n_meet ["machine", "number", "word", "numbers"] d_meet.scope := ⟨rfl, rfl, rfl, by decide +kernel, rfl, by decide +kernel, by decide +kernel⟩
theorem c_meet (T : Tx w K mg) : Cal (CX0) P w K mg base 4 "meet" (spMeet K) := by
  refine cal_mk T.fd_meet T.g_meet sc_meet (fun _ _ _ _ _ _ us hl => match us, hl with | [_, _, _, _], _ => rfl) (fun _ _ _ _ h => sp4_len h) (fun f cdv A outer s H vs Q E hr h => ?_)
  obtain ⟨_, _, _, _, rfl, S, L, p, m, n, t, x, i, nl, rfl, rfl, rfl, rfl, W, hx, hrn, ok, sm, hn, off, q⟩ := h
  refine ⟨_, PSs.nox ((pss_one (ps_if (pt_cmpR op_eq (pv 2) pe_str (nomark _)) (pss_one (ps_expr (pe_cal (c_take_lock T) hr (by decide) rfl passC (pa_cons (pv 0) (pa_cons (pv 1) (pa_cons (pe_ix ix_list (pe_fld (pv 0) rfl) (pe_ix ix_list (pv 3) pe_int (fun _ _ => rfl)) (fun _ _ => rfl)) pa_nil)))))) (pss_one (ps_if (pt_cmpR op_eq (pv 2) pe_str (nomark _)) (pss_cons (ps_fldaug (pe_ix ix_list (pe_fld (pv 0) rfl) (pv 1) (fun _ _ => rfl)) pe_int in_add)
      (pss_one (ps_if (pt_cmpR op_eq (pe_fld (pe_ix ix_list (pe_fld (pv 0) rfl) (pe_ix ix_list (pv 3) pe_int (fun _ _ => rfl)) (fun _ _ => rfl)) rfl) (pv 1) (nomark _)) (pss_one (ps_expr (pe_cal (c_free_lock T) hr (by decide) rfl passC (pa_cons (pv 0) (pa_cons (pv 1) (pa_cons (pe_ix ix_list (pe_fld (pv 0) rfl) (pe_ix ix_list (pv 3) pe_int (fun _ _ => rfl)) (fun _ _ => rfl)) pa_nil)))))) pss_nil))) (pss_one (ps_if (pt_cmpR op_eq (pv 2) pe_str (nomark _)) (pss_one (ps_expr (pe_cal (c_wait T) hr (by decide) rfl passC (pa_cons (pv 0) (pa_cons (pv 1) (pa_cons (pe_ix ix_list (pv 3) pe_int (fun _ _ => rfl)) (pa_cons (pe_ix ix_list (pv 3) pe_int (fun _ _ => rfl)) pa_nil))))))) (pss_one (ps_if (pt_cmpR op_eq (pv 2) pe_str (nomark _)) (pss_one (ps_expr (pe_cal (c_wake T) hr (by decide) rfl passC (pa_cons (pv 0) (pa_cons (pv 1) (pa_cons (pe_ix ix_list (pv 3) pe_int (fun _ _ => rfl)) pa_nil)))))) (pss_one (ps_if (pt_cmpR op_eq (pv 2) pe_str (nomark _)) (pss_one (ps_expr (pe_cal (c_start T) hr (by decide) rfl passC (pa_cons (pv 0) (pa_cons (pv 1) (pa_cons (pe_ix ix_list (pv 3) pe_int (fun _ _ => rfl)) pa_nil)))))) (pss_one (ps_expr (pe_cal (c_join T) hr (by decide) rfl passC (pa_cons (pv 0) (pa_cons (pv 1) (pa_cons (pe_ix ix_list (pv 3) pe_int (fun _ _ => rfl)) pa_nil))))))))))))))))), ?_⟩
  obtain ⟨dM, hM⟩ := W.mach
  cases i with
  | lock l =>
    obtain ⟨k, hk⟩ := get_lt (show l < m.locks.length from ok)
    obtain ⟨b, dl, od, fv, f, eb, LS, LH, LO⟩ := W.lock hk
    refine r_is rfl ?_ ?_
    · kernel_rfl
    exact ⟨_, rfl, _, rfl, _, rfl, r_fld hM T.c_Machine T.n_Machine_locks mF_locks ⟨_, rfl, r_i0 hn (r_at (SqL.of W.ll) (mapRef eb) ⟨_, _, _, rfl, S, L, p, m, n, t, x, l, k, b, rfl, rfl, rfl, W, hx, hk, eb, sm.order l k hk, fun H1 G => q H1 G⟩)⟩⟩
  | unlock l =>
    obtain ⟨k, hk⟩ := get_lt (show l < m.locks.length from ok)
    obtain ⟨b, dl, od, fv, f, eb, LS, LH, LO⟩ := W.lock hk
    obtain ⟨a, cr, d, dx, rg, pr, e1, e2, e3, TS, TH⟩ := W.thread hx
    refine r_no rfl ?_ ?_
    · kernel_rfl
    refine r_is rfl ?_ ?_
    · kernel_rfl
    refine ⟨_, rfl, r_fld hM T.c_Machine T.n_Machine_threads mF_threads ⟨_, rfl, r_at (SqL.of W.tl) (mapRef e1) ?_⟩⟩
    refine W.augT hx e1 x.advance T.c_Thread T.n_Thread_place (fun _ _ _ _ => tF_place) (fun _ _ _ _ => tF_put_place) rfl rfl fun H1 S1 W1 s1 => ?_
    have hx1 := setT_get (x := x.advance) hx
    have hk1 : (setT m t x.advance).locks[l]? = some k := hk
    have hn1 := s1.out _ _ hn off
    obtain ⟨dM1, hM1⟩ := W1.mach
    obtain ⟨dl1, od1, fv1, f1, LS1, LH1, LO1⟩ := W1.lockA hk1 eb
    refine ⟨_, rfl, r_fld hM1 T.c_Machine T.n_Machine_locks mF_locks ⟨_, rfl, r_i0 hn1 (r_at (SqL.of W1.ll) (mapRef eb) (r_fld LH1 T.c_Lock T.n_Lock_holder lF_holder ⟨_, rfl, scal_opt, _, rfl, ?_⟩))⟩⟩
    rw [holds_at hk]
    have e : meetM m t x (.unlock l) = if m.holds l t then freeM (setT m t x.advance) t x.clock l else setT m t x.advance := rfl
    rw [e] at q
    cases hh : m.holds l t with
    | false =>
      rw [hh] at q
      exact if_f rfl (q H1 ⟨S1, W1, s1⟩)
    | true =>
      rw [hh] at q
      exact if_t rfl ⟨_, rfl, _, rfl, _, rfl, r_fld hM1 T.c_Machine T.n_Machine_locks mF_locks ⟨_, rfl, r_i0 hn1 (r_at (SqL.of W1.ll) (mapRef eb) ⟨_, _, _, rfl, S1, L, p, _, n, t, x.advance, l, k, b, rfl, rfl, rfl, W1, hx1, hk1, eb, fun H2 S2 W2 s2 => q H2 ⟨S2, W2, s1.trans s2⟩⟩)⟩⟩
  | wait c l =>
    obtain ⟨k, hk⟩ := get_lt (show l < m.locks.length from ok.2)
    obtain ⟨qq, hq⟩ := get_lt (show c < m.queues.length from ok.1)
    refine r_no rfl ?_ ?_
    · kernel_rfl
    refine r_no rfl ?_ ?_
    · kernel_rfl
    refine r_is rfl ?_ ?_
    · kernel_rfl
    exact ⟨_, rfl, _, rfl, _, rfl, r_i0 hn ⟨_, rfl, r_i1 hn ⟨_, _, _, _, rfl, S, L, p, m, n, t, x, c, l, k, qq, rfl, rfl, rfl, rfl, W, hx, hk, hq, sm.qlen c qq hq, fun H1 S1 W1 s1 => q H1 ⟨S1, W1, s1⟩⟩⟩⟩
  | wake c =>
    obtain ⟨qq, hq⟩ := get_lt (show c < m.queues.length from ok)
    refine r_no rfl ?_ ?_
    · kernel_rfl
    refine r_no rfl ?_ ?_
    · kernel_rfl
    refine r_no rfl ?_ ?_
    · kernel_rfl
    refine r_is rfl ?_ ?_
    · kernel_rfl
    exact ⟨_, rfl, _, rfl, _, rfl, r_i0 hn ⟨_, _, _, rfl, S, L, p, m, n, t, x, c, qq, rfl, rfl, rfl, W, hx, hrn, hq, fun o ho => sm.wait c qq o hq ho, fun H1 S1 W1 s1 => q H1 ⟨S1, W1, s1⟩⟩⟩
  | start u =>
    obtain ⟨y, hy⟩ := get_lt (show u < m.threads.length from ok)
    refine r_no rfl ?_ ?_
    · kernel_rfl
    refine r_no rfl ?_ ?_
    · kernel_rfl
    refine r_no rfl ?_ ?_
    · kernel_rfl
    refine r_no rfl ?_ ?_
    · kernel_rfl
    refine r_is rfl ?_ ?_
    · kernel_rfl
    exact ⟨_, rfl, _, rfl, _, rfl, r_i0 hn ⟨_, _, _, rfl, S, L, p, m, n, t, x, u, y, rfl, rfl, rfl, W, hx, hrn, hy, fun H1 S1 W1 s1 => q H1 ⟨S1, W1, s1⟩⟩⟩
  | join u =>
    obtain ⟨y, hy⟩ := get_lt (show u < m.threads.length from ok)
    refine r_no rfl ?_ ?_
    · kernel_rfl
    refine r_no rfl ?_ ?_
    · kernel_rfl
    refine r_no rfl ?_ ?_
    · kernel_rfl
    refine r_no rfl ?_ ?_
    · kernel_rfl
    refine r_no rfl ?_ ?_
    · kernel_rfl
    exact ⟨_, rfl, _, rfl, _, rfl, r_i0 hn ⟨_, _, _, rfl, S, L, p, m, n, t, x, u, y, rfl, rfl, rfl, W, hx, hy, fun H1 G => q H1 G⟩⟩
  | _ => exact ok.elim
end
end CT


namespace CT
open PySem PySem.Spec PyProof.Rows L2
/-- what thread t of a running program does next, by its instruction -/
def EvI (p : Prog) (m : Mach) (t : Nat) (x : Thr) : Ins → Prop
  | .jump r k => r < 4 ∧ p.act t x = .own (if x.reg r = 0 then x.advance else { x with pc := k })
  | .lock l => l < m.locks.length ∧ p.act t x = .lock l
  | .unlock l => l < m.locks.length ∧ p.act t x = .unlock l
  | .wait c l => (c < m.queues.length ∧ l < m.locks.length) ∧ p.act t x = .wait c l
  | .wake c => c < m.queues.length ∧ p.act t x = .wake c
  | .start u => u < m.threads.length ∧ p.act t x = .start u
  | .join u => u < m.threads.length ∧ p.act t x = .join u
  | i => RkOk m.shared.length i ∧ p.act t x = actOf x i
theorem ev_cases {p : Prog} {m : Mach} {n t : Nat} {x : Thr} {d : R7285d.Spec.ThreadD} (F : Fit p) (wf : Wf p m n) (hx : m.threads[t]? = some x) (hd : p.threads[t]? = some d) :
    (evName p t x = "end" ∧ p.act t x = .stop) ∨ ∃ i, evName p t x = insName i ∧ evNums p t x = insNums i ∧ EvI p m t x i := by
  obtain ⟨d', e3', ec, ew⟩ := dOf wf hx
  rw [hd] at e3'
  cases e3'
  have ok := wf.th t d x hd hx
  have hl := wf.locks
  have hc := wf.queues
  have hs := wf.shared
  have ht := wf.threads
  cases hn : x.need with
  | some l =>
    refine .inr ⟨.lock l, ?_, ?_, ?_⟩
    · unfold evName; rw [hn]; rfl
    · unfold evNums; rw [hn]; rfl
    · have := ok.need l hn
      refine ⟨by omega, ?_⟩
      unfold R7285d.Spec.Program.act R7285d.Spec.Thread.next
      rw [hn]
  | none =>
    cases hi : d.code[x.pc]? with
    | none =>
      refine .inl ⟨?_, ?_⟩
      · unfold evName; rw [hn, ec, hi]
      · unfold R7285d.Spec.Program.act R7285d.Spec.Thread.next; rw [hn, ec, hi]
    | some i =>
      refine .inr ⟨i, ?_, ?_, ?_⟩
      · unfold evName; rw [hn, ec, hi]
      · unfold evNums; rw [hn, ec, hi]
      · have f := F.ins t d x.pc i hd hi
        have ea : p.act t x = R7285d.Spec.Thread.next x d.code := by unfold R7285d.Spec.Program.act; rw [ec]
        unfold EvI
        rw [ea]
        unfold R7285d.Spec.Thread.next
        rw [hn, hi, hl, hc, hs, ht]
        cases i with
        | const r z => exact ⟨f, rfl⟩
        | add r a b => exact ⟨f, rfl⟩
        | sub r a b => exact ⟨f, rfl⟩
        | less r a b => exact ⟨f, rfl⟩
        | jump r k => exact ⟨f.1, rfl⟩
        | load r v => exact ⟨f, rfl⟩
        | store v r => exact ⟨f, rfl⟩
        | print r => exact ⟨f, rfl⟩
        | lock l => exact ⟨f, rfl⟩
        | unlock l => exact ⟨f, rfl⟩
        | wait c l => exact ⟨f, rfl⟩
        | wake c => exact ⟨f, rfl⟩
        | start u => exact ⟨f, rfl⟩
        | join u => exact ⟨f, rfl⟩
def syncV : List V := [.str "lock", .str "unlock", .str "wait", .str "wake", .str "start", .str "join"]
def rdTick (K : PySem.W.Frag) : TS := sFldAug K (tVar 2) (tFld K (tVar 2) "weight") rAdd "clock"
def rdMid (K : PySem.W.Frag) : TS := tSeq (tIfS (tTest (tOp rEq (tVar 3) (tC (V.str "end")))) (tSeq (sFld K (tVar 2) (tC (V.int 3)) "mode") tRetN) tNext)
  (tSeq (tIfS (tTest (tOp (rIn K false) (tVar 3) (tTup (tCons (tC (V.str "lock")) (tCons (tC (V.str "unlock")) (tCons (tC (V.str "wait")) (tCons (tC (V.str "wake")) (tCons (tC (V.str "start")) (tCons (tC (V.str "join")) tNil)))))))))
      (tDrop (tCallS (spMeet K) (fun σ => E0) (tCons (tVar 0) (tCons (tVar 1) (tCons (tVar 3) (tCons (tVar 4) tNil))))))
      (tIfS (tTest (tOp rEq (tVar 3) (tC (V.str "jump"))))
        (sFld K (tVar 2) (tIf (tTest (tOp rNe (tOp (rIxL K) (tFld K (tVar 2) "registers") (tOp (rIxL K) (tVar 4) (tC (V.int 0)))) (tC (V.int 0)))) (tOp (rIxL K) (tVar 4) (tC (V.int 1))) (tOp (rI0 fun i j => V.int (i + j)) (tFld K (tVar 2) "place") (tC (V.int 1)))) "place")
        (tSeq (tDrop (tCallS (spReckon K) (fun σ => E0) (tCons (tVar 0) (tCons (tVar 2) (tCons (tVar 3) (tCons (tVar 4) tNil)))))) (sFldAug K (tVar 2) (tC (V.int 1)) rAdd "place"))))
    (rdTick K))
section
variable {w : World} {K : PySem.W.Frag} {mg : PySem.Str → Option Value} {H : Hp} {S : MP → Hp} {L : Lay} {p : Prog} {m : Mach} {n t : Nat} {x : Thr} {a nl : Addr} {d : R7285d.Spec.ThreadD} {Q : VK} {nm : PySem.Str}
theorem mid_tick (T : Tx w K mg) (W : MW K H S L p m n) (ht : t < m.threads.length) (ea : L.ta[t]? = some a) (hd : p.threads[t]? = some d) (q : ∀ H', Goes K L p H S H' (tickM m t d.weight) n → Q .non H') :
    rdTick K { nx := fun _ H' => Q .non H', rt := Q } [some (.ref L.a), some (natV t), some (.ref a), some (.str nm), some (.ref nl)] H := by
  obtain ⟨y, hy⟩ := get_lt ht
  obtain ⟨cr, d', dx, rg, pr, e2, e3, TS, TH⟩ := W.threadA hy ea
  rw [hd] at e3
  cases e3
  refine ⟨_, rfl, a, _, _, _, _, rfl, TH.ins, T.c_Thread, T.n_Thread_clock, tF_clock, _, rfl, r_fld TH.ins T.c_Thread T.n_Thread_weight tF_weight ⟨_, _, rfl, rfl, _, _, TH.ins, tF_len, ?_⟩⟩
  have e : V.int ((y.clock : Int) + (d.weight : Int)) = natV (y.clock + d.weight) := rfl
  rw [e, tF_put_clock]
  refine q _ ?_
  rw [tickM_at hy]
  exact W.thrIns (x' := ticked d.weight y) hy ea e2 hd TS rfl rfl
theorem mid_end (T : Tx w K mg) (W : MW K H S L p m n) (hx : m.threads[t]? = some x) (ea : L.ta[t]? = some a) (q : ∀ H', Goes K L p H S H' (setT m t { x with mode := .ended }) n → Q .non H') :
    rdMid K { nx := fun _ H' => Q .non H', rt := Q } [some (.ref L.a), some (natV t), some (.ref a), some (.str "end"), some (.ref nl)] H := by
  refine r_is rfl ?_ ?_
  · kernel_rfl
  exact ⟨_, rfl, W.putT hx ea { x with mode := .ended } T.c_Thread T.n_Thread_mode (fun _ _ _ _ => tF_put_mode (md := .ended)) rfl rfl fun H1 S1 W1 s1 => q H1 ⟨S1, W1, s1⟩⟩
theorem mid_meet (T : Tx w K mg) (W : MW K H S L p m n) (hx : m.threads[t]? = some x) (hr : x.mode = .running) (ea : L.ta[t]? = some a) (hd : p.threads[t]? = some d) {i : Ins} (ok : MtOk m i) (sm : Sml m) (hn : H nl = some (.lst ((insNums i).map V.int))) (off : ∀ q, S q nl = none)
    (n1 : decide (V.str (insName i) = V.str "end") = false) (n2 : inV (V.str (insName i)) syncV = true)
    (q : ∀ H', Goes K L p H S H' (tickM (meetM m t x i) t d.weight) n → Q .non H') :
    rdMid K { nx := fun _ H' => Q .non H', rt := Q } [some (.ref L.a), some (natV t), some (.ref a), some (.str (insName i)), some (.ref nl)] H := by
  refine r_no rfl n1 ⟨_, rfl, lineOf (by show 6 ≤ 1000; decide), fun b nb => ⟨b, syncV, rfl, .inr (SqT.of upd_same), rfl, rfl, _, rfl, if_t n2 ?_⟩⟩
  have sb : Same H (upd H b (.tup syncV)) := same_new nb
  have W1 := W.same sb
  refine ⟨_, rfl, _, rfl, _, rfl, _, rfl, _, _, _, _, rfl, S, L, p, m, n, t, x, i, nl, rfl, rfl, rfl, rfl, W1, hx, hr, ok, sm, sb _ _ hn, off, fun H2 ⟨S2, W2, s2⟩ => ?_⟩
  have hl : t < (meetM m t x i).threads.length := by
    rw [← W2.at_.tlen]
    exact (List.getElem?_eq_some_iff.mp ea).1
  exact mid_tick T W2 hl ea hd fun H3 ⟨S3, W3, s3⟩ => q H3 ⟨S3, W3, (Stp.same sb).trans (s2.trans s3)⟩
theorem mid_jump (T : Tx w K mg) (W : MW K H S L p m n) (hx : m.threads[t]? = some x) (ea : L.ta[t]? = some a) (hd : p.threads[t]? = some d) {r k : Nat} (hr : r < 4) (hl : x.regs.length = 4) (hn : H nl = some (.lst ((insNums (.jump r k)).map V.int)))
    (q : ∀ H', Goes K L p H S H' (tickM (setT m t { x with pc := if x.reg r ≠ 0 then k else x.pc + 1 }) t d.weight) n → Q .non H') :
    rdMid K { nx := fun _ H' => Q .non H', rt := Q } [some (.ref L.a), some (natV t), some (.ref a), some (.str (insName (.jump r k))), some (.ref nl)] H := by
  refine r_no rfl ?_ ⟨_, rfl, lineOf (by show 6 ≤ 1000; decide), fun b nb => ⟨b, syncV, rfl, .inr (SqT.of upd_same), rfl, rfl, _, rfl, if_f ?_ ?_⟩⟩
  · kernel_rfl
  · kernel_rfl
  have sb : Same H (upd H b (.tup syncV)) := same_new nb
  have W1 := W.same sb
  obtain ⟨cr, d', dx, rg, pr, e2, e3, TS, TH⟩ := W1.threadA hx ea
  have hn1 := sb _ _ hn
  refine r_is rfl ?_ ?_
  · kernel_rfl
  refine ⟨_, rfl, r_fld TH.ins T.c_Thread T.n_Thread_registers tF_registers ⟨_, rfl, r_i0 hn1 (r_at (SqL.of TH.regs) (mapInt (reg_get hl hr)) ⟨rfl, _, rfl, ?_⟩)⟩⟩
  have fin : ∀ y : Nat, (if x.reg r ≠ 0 then k else x.pc + 1) = y →
      (∃ v, ([some (.ref L.a), some (natV t), some (.ref a), some (.str (insName (.jump r k))), some (.ref nl)] : L2.St)[2]? = some (some v) ∧ ∃ a' C dx fs, v = .ref a' ∧ (upd H b (.tup syncV)) a' = some (.ins C dx fs) ∧ Cls K C ∧ NoAttr K C "place" ∧ fs.length < 1000 ∧
        rdTick K { nx := fun _ H' => Q .non H', rt := Q } [some (.ref L.a), some (natV t), some (.ref a), some (.str (insName (.jump r k))), some (.ref nl)] (upd (upd H b (.tup syncV)) a' (.ins C dx (putF "place" (natV y) fs)))) := fun y e => by
    refine ⟨_, rfl, W1.putT hx ea { x with pc := y } T.c_Thread T.n_Thread_place (fun _ _ _ _ => tF_put_place) rfl rfl fun H2 S2 W2 s2 => ?_⟩
    have hl2 : t < (setT m t { x with pc := y }).threads.length := by
      rw [← W2.at_.tlen]
      exact (List.getElem?_eq_some_iff.mp ea).1
    rw [e] at q
    exact mid_tick T W2 hl2 ea hd fun H3 ⟨S3, W3, s3⟩ => q H3 ⟨S3, W3, (Stp.same sb).trans (s2.trans s3)⟩
  by_cases c : x.reg r = 0
  · refine if_f (by rw [c]; rfl) ?_
    refine ⟨_, rfl, r_fld TH.ins T.c_Thread T.n_Thread_place tF_place ⟨_, _, rfl, rfl, fin (x.pc + 1) (if_neg (fun z => z c))⟩⟩
  · refine if_t (by rw [decide_eq_false (fun z => c (V.int.inj z))]; rfl) ?_
    exact ⟨_, rfl, r_i1 hn1 (fin k (if_pos c))⟩
theorem mid_reck (T : Tx w K mg) (W : MW K H S L p m n) (hx : m.threads[t]? = some x) (ea : L.ta[t]? = some a) (hd : p.threads[t]? = some d) {i : Ins} (ok : RkOk m.shared.length i) (hl : x.regs.length = 4) (ho : x.out.length < 2000000) (hn : H nl = some (.lst ((insNums i).map V.int)))
    (n1 : decide (V.str (insName i) = V.str "end") = false) (n2 : inV (V.str (insName i)) syncV = false) (n3 : decide (V.str (insName i) = V.str "jump") = false)
    (q : ∀ H', Goes K L p H S H' (tickM (advM (reckM m t x i) t) t d.weight) n → Q .non H') :
    rdMid K { nx := fun _ H' => Q .non H', rt := Q } [some (.ref L.a), some (natV t), some (.ref a), some (.str (insName i)), some (.ref nl)] H := by
  refine r_no rfl n1 ⟨_, rfl, lineOf (by show 6 ≤ 1000; decide), fun b nb => ⟨b, syncV, rfl, .inr (SqT.of upd_same), rfl, rfl, _, rfl, if_f n2 (r_no rfl n3 ?_)⟩⟩
  have sb : Same H (upd H b (.tup syncV)) := same_new nb
  have W1 := W.same sb
  refine ⟨_, rfl, _, rfl, _, rfl, _, rfl, _, _, _, _, rfl, S, L, p, m, n, t, x, i, nl, a, rfl, rfl, rfl, rfl, W1, hx, ea, ok, sb _ _ hn, hl, ho, fun H2 ⟨S2, W2, s2⟩ => ?_⟩
  have hl2 : t < (reckM m t x i).threads.length := by
    rw [← W2.at_.tlen]
    exact (List.getElem?_eq_some_iff.mp ea).1
  obtain ⟨y, hy⟩ := get_lt hl2
  refine ⟨_, rfl, W2.augT hy ea y.advance T.c_Thread T.n_Thread_place (fun _ _ _ _ => tF_place) (fun _ _ _ _ => tF_put_place) rfl rfl fun H3 S3 W3 s3 => ?_⟩
  rw [← advM_at hy] at W3
  have hl3 : t < (advM (reckM m t x i) t).threads.length := by
    rw [← W3.at_.tlen]
    exact (List.getElem?_eq_some_iff.mp ea).1
  exact mid_tick T W3 hl3 ea hd fun H4 ⟨S4, W4, s4⟩ => q H4 ⟨S4, W4, (Stp.same sb).trans (s2.trans (s3.trans s4))⟩
end
section
variable {P : Program} {w : World} {K : PySem.W.Frag} {mg : PySem.Str → Option Value} {base : Heap}
def spDoEvent (K : PySem.W.Frag) : Sp := sp2 fun u v H Q _ => ∃ F S L p m n t m', u = .ref L.a ∧ v = natV t ∧ MW K H S L p m n ∧ Bes K F H S L p ∧ Wf p m n ∧ n < 1000000 ∧ p.go m t = some m' ∧
  ∀ H', Goes K L p H S H' m' (n + 1) → Q .non H'
abbrev n_do_event : List PySem.Str := ["machine", "number", "thread", "word", "numbers"]
theorem sc_do_event : FnScope n_do_event ["machine", "number"] d_do_event.scope := ⟨rfl, rfl, rfl, by decide +kernel, rfl, by decide +kernel, by decide +kernel⟩
theorem c_do_event (T : Tx w K mg) : Cal (CX0) P w K mg base 5 "do_event" (spDoEvent K) := by
  refine cal_mk T.fd_do_event T.g_do_event sc_do_event (fun _ _ _ _ _ _ us hl => match us, hl with | [_, _], _ => rfl) (fun _ _ _ _ h => sp2_len h) (fun f cdv A outer s H vs Q E hr h => ?_)
  obtain ⟨_, _, rfl, F, S, L, p, m, n, t, m', rfl, rfl, W, B, wf, small, hg, q⟩ := h
  refine ⟨_, PSs.nox ((pss_cons (ps_set (i := 2) sc_do_event.nd rfl (Or.inl rfl) (pe_ix ix_list (pe_fld (pv 0) rfl) (pv 1) (fun _ _ => rfl)))
      (pss_cons (ps_asg (pe_cal (c_event_of T) hr (by decide) rfl passC (pa_cons (pv 0) (pa_cons (pv 1) pa_nil))) (pg_tup rfl (pgs_cons (pg_name (i := 3) sc_do_event.nd rfl (Or.inl rfl)) (pgs_cons (pg_name (i := 4) sc_do_event.nd rfl (Or.inl rfl)) pgs_nil))))
      (pss_cons (ps_fldaug (pv 0) pe_int in_add)
      (pss_cons (ps_fldaug (pv 2) pe_int in_add)
      (pss_cons (ps_if (pt_cmpR op_eq (pv 3) pe_str (nomark _)) (pss_cons (ps_fld (pv 2) (pe_gi T.i_ENDED rfl) rfl)
      (pss_one ps_retN)) pss_nil)
      (pss_cons (ps_if (pt_cmpR op_in_seq (pv 3) (pe_tup (pa_cons pe_str (pa_cons pe_str (pa_cons pe_str (pa_cons pe_str (pa_cons pe_str (pa_cons pe_str pa_nil))))))) rfl) (pss_one (ps_expr (pe_cal (c_meet T) hr (by decide) rfl passC (pa_cons (pv 0) (pa_cons (pv 1) (pa_cons (pv 3) (pa_cons (pv 4) pa_nil))))))) (pss_one (ps_if (pt_cmpR op_eq (pv 3) pe_str (nomark _)) (pss_one (ps_fld (pv 2) (pe_ifExp (pt_cmpR op_ne (pe_ix ix_list (pe_fld (pv 2) rfl) (pe_ix ix_list (pv 4) pe_int (fun _ _ => rfl)) (fun _ _ => rfl)) pe_int (nomark _)) (pe_ix ix_list (pv 4) pe_int (fun _ _ => rfl)) (pe_op op_add (pe_fld (pv 2) rfl) pe_int)) rfl)) (pss_cons (ps_expr (pe_cal (c_reckon T) hr (by decide) rfl passC (pa_cons (pv 0) (pa_cons (pv 2) (pa_cons (pv 3) (pa_cons (pv 4) pa_nil))))))
      (pss_one (ps_fldaug (pv 2) pe_int in_add))))))
      (pss_one (ps_fldaug (pv 2) (pe_fld (pv 2) rfl) in_add))))))))), ?_⟩
  obtain ⟨x, hx, hrn, hs, em⟩ := go_some hg
  obtain ⟨dM, hM⟩ := W.mach
  obtain ⟨a, cr, d, dx, rg, pr, e1, e2, e3, TS, TH⟩ := W.thread hx
  have hrn' := run_of hrn
  refine ⟨_, rfl, r_fld hM T.c_Machine T.n_Machine_threads mF_threads ⟨_, rfl, r_at (SqL.of W.tl) (mapRef e1) ?_⟩⟩
  refine ⟨_, rfl, _, rfl, _, _, rfl, F, S, L, p, m, n, t, x, rfl, rfl, W, B, wf, hx, fun H1 ev nl s1 hev hn off => ?_⟩
  have W1 := W.same s1
  refine ⟨ev, _, rfl, SqT.of hev, rfl, _, _, rfl, _, _, rfl, rfl, ?_⟩
  obtain ⟨dM1, hM1⟩ := W1.mach
  refine ⟨_, rfl, L.a, _, _, _, _, rfl, hM1, T.c_Machine, T.n_Machine_events, mF_events, _, _, rfl, rfl, _, _, hM1, (by show 6 < 1000; decide), ?_⟩
  rw [natV_succ, mF_put_events]
  obtain ⟨S2, W2, s2⟩ := W1.count hM1 (n + 1)
  refine ⟨_, rfl, W2.augT hx e1 (bumped x) T.c_Thread T.n_Thread_events (fun _ _ _ _ => tF_events) (fun _ _ _ _ => tF_put_events) rfl rfl fun H3 S3 W3 s3 => ?_⟩
  have hx3 := setT_get (x := bumped x) hx
  have st : Stp H S H3 S3 := (Stp.same s1).trans (s2.trans s3)
  have hn3 : H3 nl = some (.lst ((evNums p t x).map V.int)) := (s2.trans s3).out _ _ hn off
  have off3 : ∀ q, S3 q nl = none := (s2.trans s3).outside hn off
  obtain ⟨d', e3', ec, ew⟩ := dOf wf hx
  rw [e3] at e3'
  cases e3'
  have ok := wf.th t d x e3 hx
  have q' : ∀ H' mm, mm = m' → Goes K L p H3 S3 H' mm (n + 1) → Q .non H' := fun H' mm e G => by
    subst e
    obtain ⟨S', W', s'⟩ := G
    exact q H' ⟨S', W', st.trans s'⟩
  have ho : (bumped x).out.length < 2000000 := by
    show x.out.length < _
    have := ok.out
    omega
  have sm : Sml (setT m t (bumped x)) := ⟨fun l k h => by have := wf.order l k h; omega, fun c q h => by have := wf.qlen c q h; omega, fun c q u h hu => by
    obtain ⟨y, hy, my⟩ := wf.wait c q u h hu
    have ne : u ≠ t := fun e => by
      subst e
      rw [hx] at hy
      cases hy
      rw [hrn'] at my
      cases my
    exact ⟨y, by rw [setT_ne ne]; exact hy, my⟩⟩
  have tl : (setT m t (bumped x)).threads.length = m.threads.length := by simp [setT]
  rcases ev_cases B.fit wf hx e3 with ⟨en, ea⟩ | ⟨i, en, eu, ei⟩
  · rw [en]
    refine mid_end T W3 hx3 e1 fun H4 G => q' H4 _ ?_ G
    rw [em, ev_stop hx ea]
  rw [en]
  rw [eu] at hn3
  have meet : ∀ j, i = j → MtOk (setT m t (bumped x)) j → decide (V.str (insName j) = V.str "end") = false → inV (V.str (insName j)) syncV = true → evOf p m t x = tickM (meetM (setT m t (bumped x)) t (bumped x) j) t (p.weight t) →
      rdMid K { nx := fun _ H' => Q .non H', rt := Q } [some (.ref L.a), some (natV t), some (.ref a), some (.str (insName i)), some (.ref nl)] H3 := fun j e o n1 n2 e2 => by
    subst e
    exact mid_meet T W3 hx3 hrn' e1 e3 o sm hn3 off3 n1 n2 fun H4 G => q' H4 _ (by rw [em, e2, ew]) G
  have reck : ∀ j, i = j → RkOk m.shared.length j → decide (V.str (insName j) = V.str "end") = false → inV (V.str (insName j)) syncV = false → decide (V.str (insName j) = V.str "jump") = false → isReck j = true → p.act t x = actOf x j →
      rdMid K { nx := fun _ H' => Q .non H', rt := Q } [some (.ref L.a), some (natV t), some (.ref a), some (.str (insName i)), some (.ref nl)] H3 := fun j e o n1 n2 n3 ir ea => by
    subst e
    exact mid_reck T W3 hx3 e1 e3 o ok.regs ho hn3 n1 n2 n3 fun H4 G => q' H4 _ (by rw [em, ev_reck hx ir ea, ew]) G
  have wt : ∀ c q, m.queues[c]? = some q → ∀ u ∈ m.queues.getD c [], ∃ y, m.threads[u]? = some y ∧ y.mode = .waiting := fun c q h u hu => by
    rw [getD_some h] at hu
    exact wf.wait c q u h hu
  cases i with
  | jump r k =>
    obtain ⟨o, ea⟩ := ei
    exact mid_jump T W3 hx3 e1 e3 o ok.regs hn3 fun H4 G => q' H4 _ (by rw [em, ev_jump hx ea, ew]; rfl) G
  | lock l => exact meet _ rfl ei.1 (by kernel_rfl) (by kernel_rfl) (ev_lock hx ei.2)
  | unlock l => exact meet _ rfl ei.1 (by kernel_rfl) (by kernel_rfl) (ev_unlock hx ei.2)
  | wait c l => exact meet _ rfl ei.1 (by kernel_rfl) (by kernel_rfl) (ev_wait hx ei.2)
  | wake c =>
    obtain ⟨qq, hq⟩ := get_lt ei.1
    exact meet _ rfl ei.1 (by kernel_rfl) (by kernel_rfl) (ev_wake hx hrn' (wt c qq hq) ei.2)
  | start u =>
    obtain ⟨y, hy⟩ := get_lt ei.1
    obtain ⟨dy, ey, _⟩ := dOf wf hy
    exact meet _ rfl (Nat.lt_of_lt_of_eq ei.1 tl.symm) (by kernel_rfl) (by kernel_rfl) (ev_start hx hrn' ⟨y, hy, (wf.th u dy y ey hy).idle⟩ ei.2)
  | join u => exact meet _ rfl (Nat.lt_of_lt_of_eq ei.1 tl.symm) (by kernel_rfl) (by kernel_rfl) (ev_join hx hrn' ei.2)
  | const r z => exact reck _ rfl ei.1 (by kernel_rfl) (by kernel_rfl) (by kernel_rfl) rfl ei.2
  | add r u v => exact reck _ rfl ei.1 (by kernel_rfl) (by kernel_rfl) (by kernel_rfl) rfl ei.2
  | sub r u v => exact reck _ rfl ei.1 (by kernel_rfl) (by kernel_rfl) (by kernel_rfl) rfl ei.2
  | less r u v => exact reck _ rfl ei.1 (by kernel_rfl) (by kernel_rfl) (by kernel_rfl) rfl ei.2
  | load r v => exact reck _ rfl ei.1 (by kernel_rfl) (by kernel_rfl) (by kernel_rfl) rfl ei.2
  | store v r => exact reck _ rfl ei.1 (by kernel_rfl) (by kernel_rfl) (by kernel_rfl) rfl ei.2
  | print r => exact reck _ rfl ei.1 (by kernel_rfl) (by kernel_rfl) (by kernel_rfl) rfl ei.2
end
end CT


namespace CT
open PySem PySem.Spec PyProof.Rows L2
/-- the instruction of an event, none at the end -/
def evIns (p : Prog) (t : Nat) (x : Thr) : Option Ins := match x.need with
  | some l => some (.lock l)
  | none => (p.code t)[x.pc]?
def oName : Option Ins → PySem.Str
  | some i => insName i
  | none => "end"
def oNums : Option Ins → List Int
  | some i => insNums i
  | none => []
def varO : Option Ins → Option Nat
  | some (.load _ v) => some v
  | some (.store v _) => some v
  | _ => none
def storeO : Option Ins → Option Nat
  | some (.store v _) => some v
  | _ => none
def optI : Option Nat → Int
  | none => -1
  | some n => (n : Int)
theorem ev_name {p : Prog} {t : Nat} {x : Thr} : evName p t x = oName (evIns p t x) := by
  unfold evName evIns
  cases x.need with
  | some l => rfl
  | none =>
    simp only
    cases (p.code t)[x.pc]? <;> rfl
theorem ev_nums {p : Prog} {t : Nat} {x : Thr} : evNums p t x = oNums (evIns p t x) := by
  unfold evNums evIns
  cases x.need with
  | some l => rfl
  | none =>
    simp only
    cases (p.code t)[x.pc]? <;> rfl
theorem ev_var {p : Prog} {m : Mach} {t : Nat} {x : Thr} (hx : m.threads[t]? = some x) : p.access m t = varO (evIns p t x) := by
  unfold R7285d.Spec.Program.access R7285d.Spec.Program.act R7285d.Spec.Thread.next evIns
  rw [hx]
  simp only [Option.bind]
  cases x.need with
  | some l => rfl
  | none =>
    simp only
    cases (p.code t)[x.pc]? with
    | none => rfl
    | some i => cases i <;> rfl
theorem ev_store {p : Prog} {m : Mach} {t v : Nat} {x : Thr} (hx : m.threads[t]? = some x) : p.stores m t v = (storeO (evIns p t x) == some v) := by
  unfold R7285d.Spec.Program.stores R7285d.Spec.Program.act R7285d.Spec.Thread.next evIns
  rw [hx]
  simp only [Option.any]
  cases x.need with
  | some l => rfl
  | none =>
    simp only
    cases (p.code t)[x.pc]? with
    | none => rfl
    | some i => cases i <;> simp [storeO]
theorem access_lt {p : Prog} {m : Mach} {n t v : Nat} (F : Fit p) (wf : Wf p m n) (h : p.access m t = some v) : ∃ d, p.shared[v]? = some d ∧ p.guard v = d.guard ∧ d.guard < m.locks.length := by
  have hv : v < p.shared.length := by
    cases hx : m.threads[t]? with
    | none =>
      unfold R7285d.Spec.Program.access at h
      rw [hx] at h
      cases h
    | some x =>
      obtain ⟨d, hd, ec, ew⟩ := dOf wf hx
      rw [ev_var hx] at h
      unfold evIns at h
      cases hn : x.need with
      | some l => rw [hn] at h; cases h
      | none =>
        rw [hn, ec] at h
        simp only at h
        cases hi : d.code[x.pc]? with
        | none => rw [hi] at h; cases h
        | some i =>
          rw [hi] at h
          have f := F.ins t d x.pc i hd hi
          cases i <;> simp only [varO, Option.some.injEq, reduceCtorEq] at h
          · subst h; exact f.2
          · subst h; exact f.1
  obtain ⟨d, hd⟩ := get_lt hv
  refine ⟨d, hd, ?_, ?_⟩
  · unfold R7285d.Spec.Program.guard
    rw [hd]
  · rw [wf.locks]
    exact F.guards v d hd
section
variable {P : Program} {w : World} {K : PySem.W.Frag} {mg : PySem.Str → Option Value} {base : Heap}
def spVariableIn (K : PySem.W.Frag) : Sp := sp1 fun u H Q _ => ∃ ev nl o, u = .ref ev ∧ H ev = some (.tup [.str (oName o), .ref nl]) ∧ H nl = some (.lst ((oNums o).map V.int)) ∧ Q (.int (optI (varO o))) H
abbrev n_variable_in : List PySem.Str := ["event", "word", "numbers"]
theorem sc_variable_in : FnScope n_variable_in ["event"] d_variable_in.scope := ⟨rfl, rfl, rfl, by decide +kernel, rfl, by decide +kernel, by decide +kernel⟩
theorem c_variable_in (T : Tx w K mg) : Cal (CX0) P w K mg base 1 "variable_in" (spVariableIn K) := by
  refine cal_mk T.fd_variable_in T.g_variable_in sc_variable_in (fun _ _ _ _ _ _ us hl => match us, hl with | [_], _ => rfl) (fun _ _ _ _ h => sp1_len h) (fun f cdv A outer s H vs Q E hr h => ?_)
  obtain ⟨_, rfl, ev, nl, o, rfl, he, hn, q⟩ := h
  refine ⟨_, PSs.nox ((pss_cons (ps_asg (pv 0) (pg_tup rfl (pgs_cons (pg_name (i := 1) sc_variable_in.nd rfl (Or.inl rfl)) (pgs_cons (pg_name (i := 2) sc_variable_in.nd rfl (Or.inl rfl)) pgs_nil))))
      (pss_cons (ps_if (pt_cmpR op_eq (pv 1) pe_str (nomark _)) (pss_one (ps_ret (pe_ix ix_list (pv 2) pe_int (fun _ _ => rfl)))) pss_nil)
      (pss_one (ps_ret (pe_ifExp (pt_cmpR op_eq (pv 1) pe_str (nomark _)) (pe_ix ix_list (pv 2) pe_int (fun _ _ => rfl)) (pe_un un_neg pe_int))))))), ?_⟩
  refine ⟨_, rfl, ev, _, rfl, SqT.of he, rfl, _, _, rfl, _, _, rfl, rfl, ?_⟩
  cases o with
  | none => refine r_no rfl ?_ (r_no rfl ?_ ⟨_, rfl, q⟩) <;> kernel_rfl
  | some i =>
    cases i with
    | load r v =>
      refine r_is rfl ?_ ⟨_, rfl, r_i1 hn q⟩
      kernel_rfl
    | store v r =>
      refine r_no rfl ?_ (r_is rfl ?_ ⟨_, rfl, r_i0 hn q⟩)
      · kernel_rfl
      · kernel_rfl
    | _ => refine r_no rfl ?_ (r_no rfl ?_ ⟨_, rfl, q⟩) <;> kernel_rfl
def spRaceOf (K : PySem.W.Frag) : Sp := sp2 fun u v H Q _ => ∃ F S L p m n t x, u = .ref L.a ∧ v = natV t ∧ MW K H S L p m n ∧ Bes K F H S L p ∧ Wf p m n ∧ m.threads[t]? = some x ∧ ∀ H', Same H H' → Q (.int (optI (lackOf p m t))) H'
abbrev n_race_of : List PySem.Str := ["machine", "number", "variable"]
theorem sc_race_of : FnScope n_race_of ["machine", "number"] d_race_of.scope := ⟨rfl, rfl, rfl, by decide +kernel, rfl, by decide +kernel, by decide +kernel⟩
theorem c_race_of (T : Tx w K mg) : Cal (CX0) P w K mg base 2 "race_of" (spRaceOf K) := by
  refine cal_mk T.fd_race_of T.g_race_of sc_race_of (fun _ _ _ _ _ _ us hl => match us, hl with | [_, _], _ => rfl) (fun _ _ _ _ h => sp2_len h) (fun f cdv A outer s H vs Q E hr h => ?_)
  obtain ⟨_, _, rfl, F, S, L, p, m, n, t, x, rfl, rfl, W, B, wf, hx, q⟩ := h
  refine ⟨_, PSs.nox ((pss_cons (ps_set (i := 2) sc_race_of.nd rfl (Or.inl rfl) (pe_cal (c_variable_in T) hr (by decide) rfl passC (pa_cons (pe_cal (c_event_of T) hr (by decide) rfl passC (pa_cons (pv 0) (pa_cons (pv 1) pa_nil))) pa_nil)))
      (pss_cons (ps_if (PW.pt (pw_or (pt_cmpR op_lt (pv 2) pe_int (nomark _)) (pw_or1 (pt_cmpR op_eq (pe_fld (pe_ix ix_list (pe_fld (pv 0) rfl) (pe_ix ix_list (pe_fld (pe_fld (pv 0) rfl) rfl) (pv 2) (fun _ _ => rfl)) (fun _ _ => rfl)) rfl) (pv 1) (nomark _))))) (pss_one (ps_ret (pe_un un_neg pe_int))) pss_nil)
      (pss_one (ps_ret (pv 2)))))), ?_⟩
  refine ⟨_, rfl, _, rfl, _, _, rfl, F, S, L, p, m, n, t, x, rfl, rfl, W, B, wf, hx, fun H1 ev nl s1 hev hn off => ?_⟩
  rw [ev_name] at hev
  rw [ev_nums] at hn
  refine ⟨_, rfl, ev, nl, evIns p t x, rfl, hev, hn, ?_⟩
  rw [← ev_var hx]
  refine ⟨_, rfl, _, _, rfl, rfl, _, rfl, ?_⟩
  have W1 := W.same s1
  have B1 := B.same s1
  cases ha : p.access m t with
  | none =>
    refine if_t rfl (if_t rfl ⟨_, rfl, ?_⟩)
    have := q H1 s1
    unfold lackOf at this
    rw [ha] at this
    exact this
  | some v =>
    refine if_f (decide_eq_false (by show ¬ ((v : Int) < 0); omega)) ?_
    obtain ⟨d, hd, eg, gl⟩ := access_lt B.fit wf ha
    obtain ⟨k, hk⟩ := get_lt gl
    obtain ⟨b, dl, od, fv, f, eb, LS, LH, LO⟩ := W1.lock hk
    obtain ⟨dM1, hM1⟩ := W1.mach
    obtain ⟨dx, c, g, w', s', k', p1, p2, p3, p4, p5, p6⟩ := B1.prog.ex
    have gd : (p.shared.map fun d => natV d.guard)[v]? = some (natV d.guard) := by
      rw [List.getElem?_map, hd]
      rfl
    refine ⟨_, rfl, r_fld hM1 T.c_Machine T.n_Machine_locks mF_locks ⟨_, rfl, r_fld hM1 T.c_Machine T.n_Machine_program mF_program (r_fld (B1.in_ _ _ p1) T.c_Program T.n_Program_guards pF_guards ⟨_, rfl, r_at (SqL.of (B1.in_ _ _ p3)) gd ?_⟩)⟩⟩
    refine r_at (SqL.of W1.ll) (mapRef eb) (r_fld LH T.c_Lock T.n_Lock_holder lF_holder ⟨_, rfl, scal_opt, _, rfl, ?_⟩)
    rw [holds_at hk]
    have := q H1 s1
    unfold lackOf at this
    rw [ha] at this
    simp only [eg] at this
    cases hh : m.holds d.guard t with
    | true =>
      rw [hh] at this
      exact if_t rfl ⟨_, rfl, this⟩
    | false =>
      rw [hh] at this
      exact if_f rfl ⟨_, rfl, this⟩
end
end CT


namespace CT
open PySem PySem.Spec PyProof.Rows L2
/-! ### two lists, element by element -/
inductive All2 {α β : Type} (R : α → β → Prop) : List α → List β → Prop where
  | nil : All2 R [] []
  | cons {a : α} {b : β} {as : List α} {bs : List β} : R a b → All2 R as bs → All2 R (a :: as) (b :: bs)
namespace All2
variable {α β : Type} {R R' : α → β → Prop}
theorem len : ∀ {as : List α} {bs : List β}, All2 R as bs → as.length = bs.length
  | [], [], .nil => rfl
  | _ :: _, _ :: _, .cons _ t => by simp [len t]
theorem mono (f : ∀ a b, R a b → R' a b) : ∀ {as : List α} {bs : List β}, All2 R as bs → All2 R' as bs
  | [], [], .nil => .nil
  | _ :: _, _ :: _, .cons h t => .cons (f _ _ h) (mono f t)
theorem append : ∀ {as cs : List α} {bs ds : List β}, All2 R as bs → All2 R cs ds → All2 R (as ++ cs) (bs ++ ds)
  | [], _, [], _, .nil, k => k
  | _ :: _, _, _ :: _, _, .cons h t, k => .cons h (append t k)
theorem one {a : α} {b : β} (h : R a b) : All2 R [a] [b] := .cons h .nil
theorem get : ∀ {as : List α} {bs : List β} {i : Nat} {a : α} {b : β}, All2 R as bs → as[i]? = some a → bs[i]? = some b → R a b
  | _ :: _, _ :: _, 0, _, _, .cons h _, e1, e2 => by
    simp at e1 e2
    subst e1 e2
    exact h
  | _ :: _, _ :: _, i + 1, _, _, .cons _ t, e1, e2 => get (i := i) t (by simpa using e1) (by simpa using e2)
theorem of_get : ∀ {as : List α} {bs : List β}, as.length = bs.length → (∀ (i : Nat) (a : α) (b : β), as[i]? = some a → bs[i]? = some b → R a b) → All2 R as bs
  | [], [], _, _ => .nil
  | [], _ :: _, h, _ => by cases h
  | _ :: _, [], h, _ => by cases h
  | a :: as, b :: bs, h, k => .cons (k 0 a b rfl rfl) (of_get (by simpa using h) fun i a b e1 e2 => k (i + 1) a b (by simpa using e1) (by simpa using e2))
theorem ex : ∀ {as : List α} {bs : List β} {i : Nat} {b : β}, All2 R as bs → bs[i]? = some b → ∃ a, as[i]? = some a ∧ R a b
  | [], [], i, b, .nil, e => by simp at e
  | a :: as, b :: bs, 0, _, .cons h _, e => by
    simp at e
    subst e
    exact ⟨a, rfl, h⟩
  | a :: as, b :: bs, i + 1, _, .cons _ t, e => by
    obtain ⟨x, e1, e2⟩ := ex (i := i) t (by simpa using e)
    exact ⟨x, by simpa using e1, e2⟩
end All2
theorem take_succ_get {α : Type} {l : List α} {i : Nat} {a : α} (h : l[i]? = some a) : l.take (i + 1) = l.take i ++ [a] := by
  rw [List.take_add_one, h]
  rfl
theorem take_len {α : Type} (l : List α) : l.take l.length = l := by simp
end CT

namespace CT
open PySem PySem.Spec PyProof.Rows L2
/-! ### the conflicts -/
def cfl (p : Prog) (m : Mach) (x : Nat × Nat) : Bool := !(x.1 == x.2) && match p.access m x.1, p.access m x.2 with
  | some a, some b => a == b && p.stores m x.1 a
  | _, _ => false
def cRow (p : Prog) (m : Mach) (t j : Nat) : List (Nat × Nat) := (((p.choices m).take j).map fun u => (t, u)).filter (cfl p m)
def cRows (p : Prog) (m : Mach) (i : Nat) : List (Nat × Nat) := ((p.choices m).take i).flatMap fun t => cRow p m t (p.choices m).length
theorem cRow_succ {p : Prog} {m : Mach} {t j u : Nat} (h : (p.choices m)[j]? = some u) : cRow p m t (j + 1) = cRow p m t j ++ if cfl p m (t, u) = true then [(t, u)] else [] := by
  unfold cRow
  rw [take_succ_get h, List.map_append, List.filter_append]
  by_cases c : cfl p m (t, u) = true
  · simp [c]
  · simp [c]
theorem cRows_succ {p : Prog} {m : Mach} {i t : Nat} (h : (p.choices m)[i]? = some t) : cRows p m (i + 1) = cRows p m i ++ cRow p m t (p.choices m).length := by
  unfold cRows
  rw [take_succ_get h, List.flatMap_append]
  simp
theorem filter_flatMap {α β : Type} (q : β → Bool) (f : α → List β) : ∀ l : List α, (l.flatMap f).filter q = l.flatMap fun a => (f a).filter q
  | [] => rfl
  | a :: l => by
    rw [List.flatMap_cons, List.filter_append, List.flatMap_cons, filter_flatMap q f l]
theorem cRows_all {p : Prog} {m : Mach} : cRows p m (p.choices m).length = p.conflicts m := by
  unfold cRows R7285d.Spec.Program.conflicts
  rw [take_len, filter_flatMap]
  unfold cRow
  rw [take_len]
  rfl
theorem cRow_len {p : Prog} {m : Mach} {t j : Nat} : (cRow p m t j).length ≤ j := by
  unfold cRow
  refine Nat.le_trans (List.length_filter_le _ _) ?_
  rw [List.length_map, List.length_take]
  exact Nat.min_le_left _ _
theorem flat_len {α β : Type} (f : α → List β) (k : Nat) : ∀ l : List α, (∀ a, (f a).length ≤ k) → (l.flatMap f).length ≤ l.length * k
  | [], _ => by simp
  | a :: l, h => by
    rw [List.flatMap_cons, List.length_append, List.length_cons, Nat.succ_mul]
    have := flat_len f k l h
    have := h a
    omega
theorem cRows_len {p : Prog} {m : Mach} {i : Nat} : (cRows p m i).length ≤ i * (p.choices m).length := by
  unfold cRows
  refine Nat.le_trans (flat_len _ (p.choices m).length _ fun a => cRow_len) ?_
  rw [List.length_take]
  exact Nat.mul_le_mul_right _ (Nat.min_le_left _ _)
theorem choices_len {p : Prog} {m : Mach} : (p.choices m).length ≤ m.threads.length := by
  rw [← chUp_all]
  exact chUp_len
theorem choice_ok {p : Prog} {m : Mach} {j u : Nat} (h : (p.choices m)[j]? = some u) : ∃ x, m.threads[u]? = some x := by
  obtain ⟨m', hm⟩ := mem_choices.mp (List.mem_of_getElem? h)
  obtain ⟨x, hx, _⟩ := go_some hm
  exact ⟨x, hx⟩
theorem cfl_of {p : Prog} {m : Mach} {t u : Nat} {x y : Thr} (hx : m.threads[t]? = some x) (hy : m.threads[u]? = some y) : cfl p m (t, u) = (!(t == u) && match storeO (evIns p t x) with
    | some v => varO (evIns p u y) == some v
    | none => false) := by
  unfold cfl
  simp only [ev_var hx, ev_var hy, ev_store hx]
  congr 1
  generalize varO (evIns p u y) = b
  generalize evIns p t x = o
  cases o with
  | none => rfl
  | some i =>
    cases i with
    | load r v =>
      cases b with
      | none => rfl
      | some b => exact Bool.and_false _
    | store v r =>
      cases b with
      | none => rfl
      | some b =>
        show (v == b && (some v == some v)) = (some b == some v)
        by_cases e : v = b
        · subst e
          simp
        · have e' : b ≠ v := fun z => e z.symm
          have z1 : (v == b) = false := by simpa using e
          have z2 : (some b == some v) = false := by simpa using e'
          rw [z1, z2]
          rfl
    | _ => rfl
/-- a conflict in the heap -/
def CfAt (p : Prog) (m : Mach) (H : Hp) (c : Addr) (x : Nat × Nat) : Prop := ∃ v, p.access m x.1 = some v ∧ H c = some (.tup [natV x.1, natV x.2, natV v])
theorem CfAt.up {p : Prog} {m : Mach} {H H' : Hp} {c : Addr} {x : Nat × Nat} (e : ∀ b xs, H b = some (.tup xs) → H' b = some (.tup xs)) (h : CfAt p m H c x) : CfAt p m H' c x := by
  obtain ⟨v, h1, h2⟩ := h
  exact ⟨v, h1, e _ _ h2⟩
/-- what is between: the found list at D -/
structure CfIn (p : Prog) (m : Mach) (H H1 : Hp) (C D : Addr) (xs : List (Nat × Nat)) : Prop where
  same : Same H H1
  ch : H1 C = some (.lst ((p.choices m).map natV))
  fnd : ∃ cs : List Addr, H1 D = some (.lst (cs.map V.ref)) ∧ All2 (CfAt p m H1) cs xs
theorem CfIn.up {p : Prog} {m : Mach} {H H1 H2 : Hp} {C D : Addr} {xs : List (Nat × Nat)} (h : CfIn p m H H1 C D xs) (s : Same H1 H2) : CfIn p m H H2 C D xs where
  same := h.same.trans s
  ch := s _ _ h.ch
  fnd := by
    obtain ⟨cs, h1, h2⟩ := h.fnd
    exact ⟨cs, s _ _ h1, h2.mono fun c x k => k.up fun b xs e => s _ _ e⟩
section
variable {P : Program} {w : World} {K : PySem.W.Frag} {mg : PySem.Str → Option Value} {base : Heap}
def spConflictsOf (K : PySem.W.Frag) : Sp := sp1 fun u H Q _ => ∃ F S L p m n, u = .ref L.a ∧ MW K H S L p m n ∧ Bes K F H S L p ∧ Wf p m n ∧
  ∀ H' D cs, Same H H' → H D = none → H' D = some (.lst (cs.map V.ref)) → All2 (CfAt p m H') cs (p.conflicts m) → Q (.ref D) H'
abbrev n_conflicts_of : List PySem.Str := ["machine", "choices", "found", "one", "event", "two", "variable"]
theorem sc_conflicts_of : FnScope n_conflicts_of ["machine"] d_conflicts_of.scope := ⟨rfl, rfl, rfl, by decide +kernel, rfl, by decide +kernel, by decide +kernel⟩
theorem c_conflicts_of (T : Tx w K mg) : Cal (CX0) P w K mg base 5 "conflicts_of" (spConflictsOf K) := by
  refine cal_mk T.fd_conflicts_of T.g_conflicts_of sc_conflicts_of (fun _ _ _ _ _ _ us hl => match us, hl with | [_], _ => rfl) (fun _ _ _ _ h => sp1_len h) (fun f cdv A outer s H vs Q E hr h => ?_)
  obtain ⟨_, rfl, F, S, L, p, m, n, rfl, W, B, wf, q⟩ := h
  refine ⟨_, PSs.nox ((pss_cons (ps_set (i := 1) sc_conflicts_of.nd rfl (Or.inl rfl) (pe_cal (c_choices_of T) hr (by decide) rfl passC (pa_cons (pv 0) pa_nil)))
      (pss_cons (ps_set (i := 2) sc_conflicts_of.nd rfl (Or.inl rfl) (pe_lst pa_nil))
      (pss_cons (ps_for PassesOwn.never rfl (pi_list (pv 1)) (pg_name (i := 3) sc_conflicts_of.nd rfl (Or.inl rfl)) (pss_cons (ps_set (i := 4) sc_conflicts_of.nd rfl (Or.inl rfl) (pe_cal (c_event_of T) hr (by decide) rfl passC (pa_cons (pv 0) (pa_cons (pv 3) pa_nil))))
      (pss_one (ps_for PassesOwn.never rfl (pi_list (pv 1)) (pg_name (i := 5) sc_conflicts_of.nd rfl (Or.inl rfl)) (pss_cons (ps_set (i := 6) sc_conflicts_of.nd rfl (Or.inl rfl) (pe_cal (c_variable_in T) hr (by decide) rfl passC (pa_cons (pe_cal (c_event_of T) hr (by decide) rfl passC (pa_cons (pv 0) (pa_cons (pv 5) pa_nil))) pa_nil)))
      (pss_one (ps_if (PW.pt (pw_and (pt_cmpR op_ne (pv 3) (pv 5) (nomark _)) (pw_and (pt_cmpR op_eq (pe_ix ix_tup (pv 4) pe_int (fun _ _ => rfl)) pe_str (nomark _)) (pw_and1 (pt_cmpR op_eq (pv 6) (pe_ix ix_list (pe_ix ix_tup (pv 4) pe_int (fun _ _ => rfl)) pe_int (fun _ _ => rfl)) (nomark _)))))) (pss_one (ps_expr (pe_bm PySem.F.plainAttrs_list PySem.F.slot_list_append PySem.F.type_list_append mt_append (pv 2) (pa_cons (pe_tup (pa_cons (pv 3) (pa_cons (pv 5) (pa_cons (pv 6) pa_nil)))) pa_nil)))) pss_nil)))))))
      (pss_one (ps_ret (pv 2))))))), ?_⟩
  have small : m.threads.length ≤ 4 := by rw [wf.threads]; exact B.fit.threads.2
  have smallC := choices_len (p := p) (m := m)
  refine ⟨_, rfl, _, rfl, F, S, L, p, m, n, rfl, W, B, wf, fun H1 C s1 nC hC => ⟨lineOf (by show 0 ≤ 1000; decide), fun D nD => ?_⟩⟩
  have sD : Same H1 (upd H1 D (.lst [])) := same_new nD
  have nD0 : H D = none := s1.free nD
  have CD : D ≠ C := fun e => by rw [e, hC] at nD; cases nD
  refine ⟨_, rfl, C, rfl, ⟨_, SqL.of (sD _ _ hC)⟩, for_list (fun i σ H2 => CfIn p m H H2 C D (cRows p m i) ∧ ∃ o1 o2 o3 o4, σ = [some (.ref L.a), some (.ref C), some (.ref D), o1, o2, o3, o4]) ⟨⟨s1.trans sD, sD _ _ hC, [], upd_same, All2.nil⟩, none, none, none, none, rfl⟩ (fun i σ H2 _ h => SqL.of h.1.ch) ?_ ?_⟩
  · rintro i v σ H2 hv ⟨c2, o1, o2, o3, o4, rfl⟩
    obtain ⟨t, ht, rfl⟩ : ∃ t, (p.choices m)[i]? = some t ∧ v = natV t := by
      rw [List.getElem?_map] at hv
      cases e : (p.choices m)[i]? with
      | none => rw [e] at hv; cases hv
      | some t => rw [e] at hv; exact ⟨t, rfl, (Option.some.inj hv).symm⟩
    have hi : i < (p.choices m).length := (List.getElem?_eq_some_iff.mp ht).1
    obtain ⟨x, hx⟩ := choice_ok ht
    refine ⟨_, rfl, _, rfl, _, _, rfl, F, S, L, p, m, n, t, x, rfl, rfl, W.same c2.same, B.same c2.same, wf, hx, fun H3 ev nl s3 hev hn off => ?_⟩
    rw [ev_name] at hev
    rw [ev_nums] at hn
    have c3 := c2.up s3
    refine ⟨_, rfl, C, rfl, ⟨_, SqL.of c3.ch⟩, for_list (fun j σ H4 => CfIn p m H H4 C D (cRows p m i ++ cRow p m t j) ∧ (H4 ev = some (.tup [.str (oName (evIns p t x)), .ref nl]) ∧ H4 nl = some (.lst ((oNums (evIns p t x)).map V.int))) ∧ ∃ o3 o4, σ = [some (.ref L.a), some (.ref C), some (.ref D), some (natV t), some (.ref ev), o3, o4])
      ⟨by
        have : cRow p m t 0 = [] := rfl
        rw [this, List.append_nil]
        exact c3, ⟨hev, hn⟩, o3, o4, rfl⟩ (fun j σ H4 _ h => SqL.of h.1.ch) ?_ ?_⟩
    · rintro j v σ H4 hv ⟨c4, ⟨hev4, hn4⟩, o3, o4, rfl⟩
      obtain ⟨u, hu, rfl⟩ : ∃ u, (p.choices m)[j]? = some u ∧ v = natV u := by
        rw [List.getElem?_map] at hv
        cases e : (p.choices m)[j]? with
        | none => rw [e] at hv; cases hv
        | some t => rw [e] at hv; exact ⟨t, rfl, (Option.some.inj hv).symm⟩
      have hj : j < (p.choices m).length := (List.getElem?_eq_some_iff.mp hu).1
      obtain ⟨y, hy⟩ := choice_ok hu
      refine ⟨_, rfl, _, rfl, _, _, rfl, F, S, L, p, m, n, u, y, rfl, rfl, W.same c4.same, B.same c4.same, wf, hy, fun H5 ev2 nl2 s5 hev5 hn5 off5 => ?_⟩
      rw [ev_name] at hev5
      rw [ev_nums] at hn5
      refine ⟨_, rfl, ev2, nl2, evIns p u y, rfl, hev5, hn5, ?_⟩
      have c5 := c4.up s5
      have er := cRow_succ (t := t) hu
      have hev6 := s5 _ _ hev4
      have hn6 := s5 _ _ hn4
      have cf := cfl_of (p := p) (u := u) (y := y) hx hy
      have no : cfl p m (t, u) = false → CfIn p m H H5 C D (cRows p m i ++ cRow p m t (j + 1)) := fun e => by
        rw [er, e]
        simpa using c5
      refine ⟨_, rfl, _, rfl, rfl, _, rfl, ?_⟩
      by_cases tu : t = u
      · subst tu
        refine if_f (by simp) (if_f rfl ⟨no (by rw [cf]; simp), ⟨hev6, hn6⟩, _, _, rfl⟩)
      refine if_t (by rw [decide_eq_false (fun z => tu (by have := V.int.inj z; omega))]; rfl) ?_
      refine ⟨_, rfl, ev, _, 0, _, rfl, rfl, SqT.of hev6, rfl, rfl, _, rfl, ?_⟩
      cases hs : storeO (evIns p t x) with
      | none =>
        rw [hs] at cf
        refine if_f ?_ (if_f rfl ⟨no (by rw [cf]; simp), ⟨hev6, hn6⟩, _, _, rfl⟩)
        revert hs
        generalize evIns p t x = o
        intro hs
        cases o with
        | none => kernel_rfl
        | some i =>
          cases i with
          | store v r => cases hs
          | _ => kernel_rfl
      | some v =>
        obtain ⟨r, eo⟩ : ∃ r, evIns p t x = some (.store v r) := by
          revert hs
          generalize evIns p t x = o
          intro hs
          cases o with
          | none => cases hs
          | some i =>
            cases i with
            | store v' r =>
              cases hs
              exact ⟨r, rfl⟩
            | _ => cases hs
        rw [hs] at cf
        have cf : cfl p m (t, u) = (!(t == u) && (varO (evIns p u y) == some v)) := cf
        have hn7 : H5 nl = some (.lst (V.int (v : Int) :: [V.int (r : Int)])) := by
          rw [eo] at hn6
          exact hn6
        refine if_t (by rw [eo]; kernel_rfl) ?_
        refine ⟨_, rfl, _, rfl, ev, _, 1, _, rfl, rfl, SqT.of hev6, rfl, r_i0 hn7 ⟨rfl, _, rfl, ?_⟩⟩
        have ev : decide (V.int (optI (varO (evIns p u y))) = V.int (v : Int)) = (varO (evIns p u y) == some v) := by
          cases varO (evIns p u y) with
          | none =>
            refine (decide_eq_false fun z => ?_).trans (by simp)
            have := V.int.inj z
            simp only [optI] at this
            omega
          | some b =>
            by_cases e : b = v
            · subst e
              exact (decide_eq_true rfl).trans (by simp)
            · refine (decide_eq_false fun z => e ?_).trans (by simp [e])
              have := V.int.inj z
              simp only [optI] at this
              omega
        rw [ev]
        cases hb : (varO (evIns p u y) == some v) with
        | false =>
          rw [hb] at cf
          exact if_f rfl ⟨no (by rw [cf]; simp), ⟨hev6, hn6⟩, _, _, rfl⟩
        | true =>
          rw [hb] at cf
          have yes : cfl p m (t, u) = true := by rw [cf]; simp [tu]
          rw [if_pos yes] at er
          obtain ⟨cs, hD, hcs⟩ := c5.fnd
          have e2 : varO (evIns p u y) = some v := by simpa using hb
          refine if_t rfl ⟨_, rfl, .inl ⟨rfl, _, SqL.of hD⟩, _, rfl, _, rfl, _, rfl, lineOf (by show 3 ≤ 1000; decide), fun c nc => ?_⟩
          have sc := same_new (o := .tup [natV t, natV u, V.int (optI (varO (evIns p u y)))]) nc
          have lc := hcs.len
          rw [List.length_append] at lc
          have l1 := cRows_len (p := p) (m := m) (i := i)
          have l2 := cRow_len (p := p) (m := m) (t := t) (j := j)
          have l3 : i * (p.choices m).length ≤ 4 * 4 := Nat.mul_le_mul (by omega) (by omega)
          refine ⟨D, _, _, rfl, rfl, sc _ _ hD, lt_line (by rw [List.length_map]; omega), ⟨same_at nD0 (c5.same.trans sc), ?_, cs ++ [c], by rw [upd_same, List.map_append]; rfl, ?_⟩, ⟨?_, ?_⟩, _, _, rfl⟩
          · rw [upd_ne (Ne.symm CD)]
            exact sc _ _ c5.ch
          · have tp := tups_wr (o := .lst (cs.map V.ref ++ [V.ref c])) (sc _ _ hD) lst_tup
            rw [er, ← List.append_assoc]
            refine All2.append (hcs.mono fun b x k => k.up fun b xs e => tp _ _ (sc _ _ e)) (All2.one ⟨v, ?_, ?_⟩)
            · rw [ev_var hx, eo]
              rfl
            · refine tp _ _ ?_
              rw [upd_same, e2]
              rfl
          · rw [upd_ne (ne_of (sc _ _ hev6) (sc _ _ hD) (fun z => nomatch z))]
            exact sc _ _ hev6
          · rw [upd_ne ?_]
            · exact sc _ _ hn6
            · intro e
              rw [e, hD] at hn7
              cases cs with
              | nil => cases hn7
              | cons b cs => cases hn7
    · rintro σ H4 ⟨c4, _, o3, o4, rfl⟩
      rw [List.length_map] at c4
      exact ⟨by rw [cRows_succ ht]; exact c4, _, _, _, _, rfl⟩
  · rintro σ H2 ⟨c2, o1, o2, o3, o4, rfl⟩
    rw [List.length_map] at c2
    obtain ⟨cs, h1, h2⟩ := c2.fnd
    rw [cRows_all] at h2
    exact ⟨_, rfl, q H2 D cs c2.same nD0 h1 h2⟩
end
end CT


namespace CT
open PySem PySem.Spec PyProof.Rows L2
/-! ### zip of three lists; zip of a tuple and a list -/
/-- a turn that gives a new tuple, by a walk over tuples -/
theorem turn_walksT {P : Program} {w : World} {K : PySem.W.Frag} {elts : List Expr} {kk : Nat} {tpos : Pos} {J : It} {ch : List Addr} {z : Addr} {tn : Nat → Heap → Prop} (mem : z ∈ ch) (obj : ∀ i h, tn i h → ∀ b ∈ ch, ∃ o, h.get? b = some o ∧ ∀ v, o.data ≠ .cell v)
    (keep : ∀ i h h', tn i h → (∀ b ∈ ch, ∀ o, h.get? b = some o → h'.get? b = some o) → tn i h')
    (goes : ∀ (X : Cx), X.prog = P → X.w = w → X.K = K → X.calm = true → ∀ (i : Nat) (pins : List (Addr × Obj)) (s : Shared) (σ : L2.St) (H : Hp), Inv X pins σ H s → tn i s.heap → J.go i H →
      ∃ (fp wr : List Addr) (n : Nat) (Pt : Nat → Array Value → Prop) (St : Nat → Heap → Prop) (Mid : Nat → Addr → Heap → Prop), WalksT P w X.A z fp wr n Pt St Mid ∧ i < n ∧ St i s.heap ∧ (∀ b ∈ wr, b ∈ ch) ∧ (∀ h, St (i + 1) h → tn (i + 1) h) ∧
        ∀ T vals, Pt i vals → ∃ vs : List V, Vals vs vals.toList ∧ vs.length ≤ sizeLine ∧ (H T = none → J.yld i H (.ref T) (upd H T (.tup vs))))
    (stops : ∀ (X : Cx), X.prog = P → X.w = w → X.K = K → X.calm = true → ∀ (i : Nat) (pins : List (Addr × Obj)) (s : Shared) (σ : L2.St) (H : Hp), Inv X pins σ H s → tn i s.heap → J.stop i H →
      ∃ (fp wr : List Addr) (Pt : Nat → Array Value → Prop) (St : Nat → Heap → Prop) (Mid : Nat → Addr → Heap → Prop), WalksT P w X.A z fp wr i Pt St Mid ∧ St i s.heap ∧ (∀ b ∈ wr, b ∈ ch))
    (self : ∀ (A : Around) (i : Nat) (s : Shared) (Q : Value → Shared → Prop) (E : Value → Shared → Prop), tn i s.heap → Q (.ref z) s → wpAny (model P w) A (pyIter (.ref z)) Q E s) :
    Turn P w K (.Tuple elts kk tpos) J ch z tn where
  mem := mem
  obj := obj
  keep := keep
  self := self
  item := by
    intro X hP hw hK hc i pins s σ H E I hf st hg
    obtain ⟨fp, wr, n, Pt, St, Mid, W, hi, hst, sub, back, val⟩ := goes X hP hw hK hc i pins s σ H I st hg
    subst hP hw hK
    refine W.item i s _ _ hi hst fun T vals h' tk hPt hnew hT hm hk => ⟨.ref T, rfl, W.go elts kk tpos i T { s with heap := h', toks := tk } _ _ hm fun h2 st2 hk2 => ?_⟩
    obtain ⟨vs, rv, lv, yl⟩ := val T vals hPt
    have hn : H T = none := I.hok.fresh hnew
    have hT2 : h2.IsTuple T vals := hT.at fun o q => hk2 T o (W.apart i T h' hm) q
    have new : ObjOk X.prog X.w (upd H T (.tup vs)) h2 T (.tup vs) := ⟨lv, vals.toList, rv, by rw [Array.toArray_toList]; obtain ⟨o, g, c, n, d⟩ := hT2; exact ⟨o, g, c, n, d⟩⟩
    refine ⟨.ref T, _, I.turnedNew (t' := tk) (ch := ch) (fun c o hb q => hk2 c o (fun z => hb (sub c z)) (hk c o (fun z => hb (sub c z)) q)) hf hnew new, rfl, yl hn, back _ st2, fun c hc => ?_⟩
    have hlt : c ≠ T := fun e => by
      obtain ⟨o, ho, _⟩ := obj i s.heap st c hc
      have := Heap.lt_size ho
      rw [e] at this
      exact Nat.lt_irrefl _ (Nat.lt_of_lt_of_le this hnew)
    rw [upd_ne hlt]
    exact (hf c hc).1
  done := by
    intro X hP hw hK hc i pins s σ H E I hf st hg
    obtain ⟨fp, wr, Pt, St, Mid, W, hst, sub⟩ := stops X hP hw hK hc i pins s σ H I st hg
    subst hP hw hK
    exact W.done s _ _ hst fun h' tk hk => ⟨rfl, I.turnedL (t' := tk) (ch := ch) (fun c o hb q => hk c o (fun z => hb (sub c z)) q) hf⟩
def It3 (K : PySem.W.Frag) (a b c : Addr) : It :=
  ⟨fun i H => ∃ (xs ys zs : List V) (x y z : V), SqL K H a xs ∧ SqL K H b ys ∧ SqL K H c zs ∧ xs[i]? = some x ∧ ys[i]? = some y ∧ zs[i]? = some z,
    fun i H v H' => ∃ T x y z, v = .ref T ∧ H T = none ∧ H' = upd H T (.tup [x, y, z]) ∧ (∀ xs, SqL K H a xs → xs[i]? = some x) ∧ (∀ ys, SqL K H b ys → ys[i]? = some y) ∧ ∀ zs, SqL K H c zs → zs[i]? = some z,
    fun i H => ∃ xs ys zs : List V, SqL K H a xs ∧ SqL K H b ys ∧ SqL K H c zs ∧ xs.length = i ∧ ys.length = i ∧ zs.length = i⟩
theorem walk_zip3 {K : PySem.W.Frag} {a b c : Addr} {xs ys zs : List V} {n : Nat} (h1 : xs.length = n) (h2 : ys.length = n) (h3 : zs.length = n) : Walk (It3 K a b c) n (fun H => SqL K H a xs ∧ SqL K H b ys ∧ SqL K H c zs)
    (fun i H v H' => ∃ T x y z, v = .ref T ∧ H T = none ∧ H' = upd H T (.tup [x, y, z]) ∧ xs[i]? = some x ∧ ys[i]? = some y ∧ zs[i]? = some z) where
  goes := fun i H hi ⟨q1, q2, q3⟩ => ⟨xs, ys, zs, xs[i], ys[i], zs[i], q1, q2, q3, by simp [h1, hi], by simp [h2, hi], by simp [h3, hi]⟩
  stops := fun H ⟨q1, q2, q3⟩ => ⟨xs, ys, zs, q1, q2, q3, h1, h2, h3⟩
  yields := fun i H x H' hi ⟨q1, q2, q3⟩ ⟨T, x', y, z, e1, e2, e3, f1, f2, f3⟩ => ⟨T, x', y, z, e1, e2, e3, f1 _ q1, f2 _ q2, f3 _ q3⟩
theorem list_obj {h : Heap} {it l : Addr} {i : Nat} (q : h.IsListIter it l i) : ∃ o, h.get? it = some o ∧ ∀ v, o.data ≠ .cell v := by
  obtain ⟨o, e, _, d⟩ := q
  exact ⟨o, e, fun v q => by rw [d] at q; cases q⟩
theorem tup_obj {h : Heap} {it l : Addr} {i : Nat} (q : h.IsTupleIter it l i) : ∃ o, h.get? it = some o ∧ ∀ v, o.data ≠ .cell v := by
  obtain ⟨o, e, _, d⟩ := q
  exact ⟨o, e, fun v q => by rw [d] at q; cases q⟩
theorem turn_zip3 {P : Program} {w : World} {K : PySem.W.Frag} {elts : List Expr} {kk : Nat} {tpos : Pos} {a b c : Addr} {N : Nat} (ha : a < N) (hb : b < N) (hc : c < N) :
    Turn P w K (.Tuple elts kk tpos) (It3 K a b c) [N + 5, N + 3, N + 4, N, N + 1, N + 2] (N + 5)
      (fun i h => IsZip h (N + 5) (N + 3) (N + 4) .none ∧ IsTupOf3 h (N + 3) (.ref N) (.ref (N + 1)) (.ref (N + 2)) ∧ (∃ x y z, IsTupOf3 h (N + 4) x y z) ∧ h.IsListIter N a i ∧ h.IsListIter (N + 1) b i ∧ h.IsListIter (N + 2) c i) := by
  have na : a ≠ N := Nat.ne_of_lt ha
  have nb : b ≠ (N + 1 : Nat) := Nat.ne_of_lt (Nat.lt_succ_of_lt hb)
  have nc : c ≠ (N + 2 : Nat) := Nat.ne_of_lt (Nat.lt_of_lt_of_le hc (Nat.le_add_right _ _))
  have sep : ZipSep3 (N + 5) (N + 3) (N + 4) N (N + 1) (N + 2) (N :: [a]) ((N + 1) :: [b]) ((N + 2) :: [c]) := zip_sep3 (by simpa using ha) (by simpa using hb) (by simpa using hc)
  refine turn_walksT (by simp) (fun i h st q hq => ?_) (fun i h h' st k => ?_) (fun X hP hw hK hcm i pins s σ H I st hg => ?_) (fun X hP hw hK hcm i pins s σ H I st hg => ?_) (fun A i s Q E st h => wpAny_pyIter_zip st.1 h)
  · obtain ⟨hz, hTI, ⟨x, y, z, hTO⟩, h1, h2, h3⟩ := st
    have e' : q = N + 5 ∨ q = N + 3 ∨ q = N + 4 ∨ q = N ∨ q = N + 1 ∨ q = N + 2 := by simpa using hq
    rcases e' with q | q | q | q | q | q
    · rw [q]; exact ⟨_, hz, fun v q => nomatch q⟩
    · rw [q]; exact ⟨_, hTI, fun v q => nomatch q⟩
    · rw [q]; exact ⟨_, hTO, fun v q => nomatch q⟩
    · rw [q]; exact list_obj h1
    · rw [q]; exact list_obj h2
    · rw [q]; exact list_obj h3
  · obtain ⟨hz, hTI, ⟨x, y, z, hTO⟩, h1, h2, h3⟩ := st
    exact ⟨k _ (by simp) _ hz, k _ (by simp) _ hTI, ⟨x, y, z, k _ (by simp) _ hTO⟩, h1.at fun o q => k N (by simp) o q, h2.at fun o q => k (N + 1) (by simp) o q, h3.at fun o q => k (N + 2) (by simp) o q⟩
  · subst hP hw hK
    obtain ⟨hz, hTI, hTO, h1, h2, h3⟩ := st
    obtain ⟨xs, ys, zs, x, y, z, q1, q2, q3, e1, e2, e3⟩ := hg
    obtain ⟨i1, r1, p1, _⟩ := I.list q1
    obtain ⟨i2, r2, p2, _⟩ := I.list q2
    obtain ⟨i3, r3, p3, _⟩ := I.list q3
    have W := WalksT.zipD3 (prog := X.prog) (w := X.w) (A := X.A) sep (Draws.list (A := X.A.in1) (I.ok.hd hcm) N a na i1.toArray) (Draws.list (A := X.A.in1) (I.ok.hd hcm) (N + 1) b nb i2.toArray) (Draws.list (A := X.A.in1) (I.ok.hd hcm) (N + 2) c nc i3.toArray)
    obtain ⟨u1, g1, v1⟩ := r1.get e1
    obtain ⟨u2, g2, v2⟩ := r2.get e2
    obtain ⟨u3, g3, v3⟩ := r3.get e3
    have l1 := (List.getElem?_eq_some_iff.mp g1).1
    have l2 := (List.getElem?_eq_some_iff.mp g2).1
    have l3 := (List.getElem?_eq_some_iff.mp g3).1
    refine ⟨_, _, _, _, _, _, W, by simp; omega, ⟨hz, hTI, hTO, ⟨h1, p1.isList⟩, ⟨h2, p2.isList⟩, ⟨h3, p3.isList⟩⟩, fun b hb => by simp at hb ⊢; rcases hb with h | h | h | h | h <;> simp [h], fun h ⟨a1, a2, a3, a4, a5, a6⟩ => ⟨a1, a2, a3, a4.1, a5.1, a6.1⟩, fun T vals hv => ?_⟩
    obtain ⟨w1, w2, w3, f1, f2, f3, ev⟩ := hv
    simp only [List.getElem?_toArray] at f1 f2 f3
    rw [g1] at f1
    rw [g2] at f2
    rw [g3] at f3
    cases f1
    cases f2
    cases f3
    refine ⟨[x, y, z], ?_, by show 3 ≤ sizeLine; decide, fun hn => ⟨T, x, y, z, rfl, hn, rfl, fun l hl => by rw [I.list_inj hl q1]; exact e1, fun l hl => by rw [I.list_inj hl q2]; exact e2, fun l hl => by rw [I.list_inj hl q3]; exact e3⟩⟩
    rw [ev]
    exact .cons v1 (.cons v2 (.cons v3 .nil))
  · subst hP hw hK
    obtain ⟨hz, hTI, hTO, h1, h2, h3⟩ := st
    obtain ⟨xs, ys, zs, q1, q2, q3, e1, e2, e3⟩ := hg
    obtain ⟨i1, r1, p1, _⟩ := I.list q1
    obtain ⟨i2, r2, p2, _⟩ := I.list q2
    obtain ⟨i3, r3, p3, _⟩ := I.list q3
    have W := WalksT.zipD3 (prog := X.prog) (w := X.w) (A := X.A) sep (Draws.list (A := X.A.in1) (I.ok.hd hcm) N a na i1.toArray) (Draws.list (A := X.A.in1) (I.ok.hd hcm) (N + 1) b nb i2.toArray) (Draws.list (A := X.A.in1) (I.ok.hd hcm) (N + 2) c nc i3.toArray)
    have l1 := r1.length
    have l2 := r2.length
    have l3 := r3.length
    have en : min (min i1.toArray.size i2.toArray.size) i3.toArray.size = i := by simp; omega
    rw [en] at W
    exact ⟨_, _, _, _, _, W, ⟨hz, hTI, hTO, ⟨h1, p1.isList⟩, ⟨h2, p2.isList⟩, ⟨h3, p3.isList⟩⟩, fun b hb => by simp at hb ⊢; rcases hb with h | h | h | h | h <;> simp [h]⟩
def iZip3 (K : PySem.W.Frag) (ta : TA) : TI := fun σ H R => ta σ H fun vs H1 => ∃ a b c xs ys zs, vs = [.ref a, .ref b, .ref c] ∧ SqL K H1 a xs ∧ SqL K H1 b ys ∧ SqL K H1 c zs ∧ R (It3 K a b c) H1
theorem pi_zip3 {X : Cx} {e e2 e3 : Expr} {ta : TA} {p pos tpos : Pos} {elts : List Expr} {kk : Nat} (hg : Gl X "zip") (hm : X.mg "zip" = none) (ha : PA X [e, e2, e3] ta)
    (hs : starEach [e, e2, e3] X.env = (false, eval e X.env) :: starEach [e2, e3] X.env := by rfl) (hpl : (backTo pos (starEach [e2, e3] X.env)).any (·.1) = false := by rfl) :
    PI X (.Tuple elts kk tpos) (.Call (.Name "zip" p) [e, e2, e3] [] pos) (iZip3 X.K ta) := by
  refine ⟨fun pins s σ H R I h => ?_⟩
  refine Call_ (ld_blt I hg hm PyProof.Rows.boot_zip (PyProof.Rows.callWith_type1 (thn (ha.run pos pins s σ H _ I h) fun us s1 ⟨vs, H1, I1, r1, q1⟩ => ?_) hs hpl))
  obtain ⟨a, b, c, xs, ys, zs, ex, hq1, hq2, hq3, q⟩ := q1
  subst ex
  cases r1 with
  | cons r rr =>
    cases rr with
    | cons r' rr =>
      cases rr with
      | cons r'' rr =>
        cases rr
        cases r
        cases r'
        cases r''
        obtain ⟨i1, rv1, p1, _⟩ := I1.list hq1
        obtain ⟨i2, rv2, p2, _⟩ := I1.list hq2
        obtain ⟨i3, rv3, p3, _⟩ := I1.list hq3
        refine zip_begins3 (begins_list a i1.toArray) (begins_list b i2.toArray) (begins_list c i3.toArray) p1.isList p2.isList p3.isList fun h' hz hTI hTO h1 h2 h3 hsz hk => wpAny_pyIter_zip hz ?_
        have I2 : Inv X pins σ H1 { s1 with heap := h' } := I1.kept (t' := s1.toks) hk
        refine ⟨s1.heap.objs.size + 5, _, _, _, H1, rfl, I2, turn_zip3 p1.lt p2.lt p3.lt, ⟨hz, hTI, ⟨_, _, _, hTO⟩, ⟨_, h1, rfl, rfl⟩, ⟨_, h2, rfl, rfl⟩, ⟨_, h3, rfl, rfl⟩⟩, fun c hcm => ?_, q⟩
        have e' : c = s1.heap.objs.size + 5 ∨ c = s1.heap.objs.size + 3 ∨ c = s1.heap.objs.size + 4 ∨ c = s1.heap.objs.size ∨ c = s1.heap.objs.size + 1 ∨ c = s1.heap.objs.size + 2 := by simpa using hcm
        have hle : s1.heap.objs.size ≤ c := by
          rcases e' with z | z | z | z | z | z
          · rw [z]; exact Nat.le_add_right _ _
          · rw [z]; exact Nat.le_add_right _ _
          · rw [z]; exact Nat.le_add_right _ _
          · rw [z]; exact Nat.le_refl _
          · rw [z]; exact Nat.le_add_right _ _
          · rw [z]; exact Nat.le_add_right _ _
        exact I1.fpOk hle (I1.hok.fresh hle)
end CT

namespace CT
open PySem PySem.Spec PyProof.Rows L2
def ItTL (K : PySem.W.Frag) (a b : Addr) : It :=
  ⟨fun i H => ∃ (xs ys : List V) (x y : V), SqT K H a xs ∧ SqL K H b ys ∧ xs[i]? = some x ∧ ys[i]? = some y,
    fun i H v H' => ∃ T x y, v = .ref T ∧ H T = none ∧ H' = upd H T (.tup [x, y]) ∧ (∀ xs, SqT K H a xs → xs[i]? = some x) ∧ ∀ ys, SqL K H b ys → ys[i]? = some y,
    fun i H => ∃ xs ys : List V, SqT K H a xs ∧ SqL K H b ys ∧ xs.length = i ∧ ys.length = i⟩
theorem walk_zipTL {K : PySem.W.Frag} {a b : Addr} {xs ys : List V} {n : Nat} (h1 : xs.length = n) (h2 : ys.length = n) : Walk (ItTL K a b) n (fun H => SqT K H a xs ∧ SqL K H b ys)
    (fun i H v H' => ∃ T x y, v = .ref T ∧ H T = none ∧ H' = upd H T (.tup [x, y]) ∧ xs[i]? = some x ∧ ys[i]? = some y) where
  goes := fun i H hi ⟨q1, q2⟩ => ⟨xs, ys, xs[i], ys[i], q1, q2, by simp [h1, hi], by simp [h2, hi]⟩
  stops := fun H ⟨q1, q2⟩ => ⟨xs, ys, q1, q2, h1, h2⟩
  yields := fun i H x H' hi ⟨q1, q2⟩ ⟨T, x', y, e1, e2, e3, f1, f2⟩ => ⟨T, x', y, e1, e2, e3, f1 _ q1, f2 _ q2⟩
theorem turn_zipTL {P : Program} {w : World} {K : PySem.W.Frag} {elts : List Expr} {kk : Nat} {tpos : Pos} {a b : Addr} {N : Nat} (ha : a < N) (hb : b < N) :
    Turn P w K (.Tuple elts kk tpos) (ItTL K a b) [N + 4, N + 2, N + 3, N, N + 1] (N + 4)
      (fun i h => IsZip h (N + 4) (N + 2) (N + 3) .none ∧ IsTupOf2 h (N + 2) (.ref N) (.ref (N + 1)) ∧ (∃ x y, IsTupOf2 h (N + 3) x y) ∧ h.IsTupleIter N a i ∧ h.IsListIter (N + 1) b i) := by
  have na : a ≠ N := Nat.ne_of_lt ha
  have nb : b ≠ (N + 1 : Nat) := Nat.ne_of_lt (Nat.lt_succ_of_lt hb)
  have sep : ZipSep2 (N + 4) (N + 2) (N + 3) N (N + 1) (N :: [a]) ((N + 1) :: [b]) := zip_sep2 (by simpa using ha) (by simpa using hb)
  refine turn_walksT (by simp) (fun i h st q hq => ?_) (fun i h h' st k => ?_) (fun X hP hw hK hcm i pins s σ H I st hg => ?_) (fun X hP hw hK hcm i pins s σ H I st hg => ?_) (fun A i s Q E st h => wpAny_pyIter_zip st.1 h)
  · obtain ⟨hz, hTI, ⟨x, y, hTO⟩, h1, h2⟩ := st
    have e' : q = N + 4 ∨ q = N + 2 ∨ q = N + 3 ∨ q = N ∨ q = N + 1 := by simpa using hq
    rcases e' with q | q | q | q | q
    · rw [q]; exact ⟨_, hz, fun v q => nomatch q⟩
    · rw [q]; exact ⟨_, hTI, fun v q => nomatch q⟩
    · rw [q]; exact ⟨_, hTO, fun v q => nomatch q⟩
    · rw [q]; exact tup_obj h1
    · rw [q]; exact list_obj h2
  · obtain ⟨hz, hTI, ⟨x, y, hTO⟩, h1, h2⟩ := st
    exact ⟨k _ (by simp) _ hz, k _ (by simp) _ hTI, ⟨x, y, k _ (by simp) _ hTO⟩, h1.at fun o q => k N (by simp) o q, h2.at fun o q => k (N + 1) (by simp) o q⟩
  · subst hP hw hK
    obtain ⟨hz, hTI, hTO, h1, h2⟩ := st
    obtain ⟨xs, ys, x, y, q1, q2, e1, e2⟩ := hg
    obtain ⟨i1, r1, p1, _⟩ := I.tuple q1
    obtain ⟨i2, r2, p2, _⟩ := I.list q2
    have W := WalksT.zipD2 (prog := X.prog) (w := X.w) (A := X.A) sep (Draws.tuple (A := X.A.in1) (I.ok.hd hcm) N a na i1.toArray) (Draws.list (A := X.A.in1) (I.ok.hd hcm) (N + 1) b nb i2.toArray)
    obtain ⟨u1, g1, v1⟩ := r1.get e1
    obtain ⟨u2, g2, v2⟩ := r2.get e2
    have l1 := (List.getElem?_eq_some_iff.mp g1).1
    have l2 := (List.getElem?_eq_some_iff.mp g2).1
    refine ⟨_, _, _, _, _, _, W, by simp; omega, ⟨hz, hTI, hTO, ⟨h1, p1⟩, ⟨h2, p2.isList⟩⟩, fun b hb => by simp at hb ⊢; rcases hb with h | h | h | h <;> simp [h], fun h ⟨a1, a2, a3, a4, a5⟩ => ⟨a1, a2, a3, a4.1, a5.1⟩, fun T vals hv => ?_⟩
    obtain ⟨w1, w2, f1, f2, ev⟩ := hv
    simp only [List.getElem?_toArray] at f1 f2
    rw [g1] at f1
    rw [g2] at f2
    cases f1
    cases f2
    refine ⟨[x, y], ?_, by show 2 ≤ sizeLine; decide, fun hn => ⟨T, x, y, rfl, hn, rfl, fun l hl => by rw [I.tuple_inj hl q1]; exact e1, fun l hl => by rw [I.list_inj hl q2]; exact e2⟩⟩
    rw [ev]
    exact .cons v1 (.cons v2 .nil)
  · subst hP hw hK
    obtain ⟨hz, hTI, hTO, h1, h2⟩ := st
    obtain ⟨xs, ys, q1, q2, e1, e2⟩ := hg
    obtain ⟨i1, r1, p1, _⟩ := I.tuple q1
    obtain ⟨i2, r2, p2, _⟩ := I.list q2
    have W := WalksT.zipD2 (prog := X.prog) (w := X.w) (A := X.A) sep (Draws.tuple (A := X.A.in1) (I.ok.hd hcm) N a na i1.toArray) (Draws.list (A := X.A.in1) (I.ok.hd hcm) (N + 1) b nb i2.toArray)
    have l1 := r1.length
    have l2 := r2.length
    have en : min i1.toArray.size i2.toArray.size = i := by simp; omega
    rw [en] at W
    exact ⟨_, _, _, _, _, W, ⟨hz, hTI, hTO, ⟨h1, p1⟩, ⟨h2, p2.isList⟩⟩, fun b hb => by simp at hb ⊢; rcases hb with h | h | h | h <;> simp [h]⟩
def iZipTL (K : PySem.W.Frag) (ta : TA) : TI := fun σ H R => ta σ H fun vs H1 => ∃ a b xs ys, vs = [.ref a, .ref b] ∧ SqT K H1 a xs ∧ SqL K H1 b ys ∧ R (ItTL K a b) H1
theorem pi_zipTL {X : Cx} {e e2 : Expr} {ta : TA} {p pos tpos : Pos} {elts : List Expr} {kk : Nat} (hg : Gl X "zip") (hm : X.mg "zip" = none) (ha : PA X [e, e2] ta)
    (hs : starEach [e, e2] X.env = (false, eval e X.env) :: starEach [e2] X.env := by rfl) (hpl : (backTo pos (starEach [e2] X.env)).any (·.1) = false := by rfl) :
    PI X (.Tuple elts kk tpos) (.Call (.Name "zip" p) [e, e2] [] pos) (iZipTL X.K ta) := by
  refine ⟨fun pins s σ H R I h => ?_⟩
  refine Call_ (ld_blt I hg hm PyProof.Rows.boot_zip (PyProof.Rows.callWith_type1 (thn (ha.run pos pins s σ H _ I h) fun us s1 ⟨vs, H1, I1, r1, q1⟩ => ?_) hs hpl))
  obtain ⟨a, b, xs, ys, ex, hq1, hq2, q⟩ := q1
  subst ex
  cases r1 with
  | cons r rr =>
    cases rr with
    | cons r' rr =>
      cases rr
      cases r
      cases r'
      obtain ⟨i1, rv1, p1, _⟩ := I1.tuple hq1
      obtain ⟨i2, rv2, p2, _⟩ := I1.list hq2
      have l1 : a < s1.heap.objs.size := by
        obtain ⟨o, e, _⟩ := id p1
        exact Heap.lt_size e
      refine zip_begins2 (begins_tuple a i1.toArray) (begins_list b i2.toArray) p1 p2.isList fun h' hz hTI hTO h1 h2 hsz hk => wpAny_pyIter_zip hz ?_
      have I2 : Inv X pins σ H1 { s1 with heap := h' } := I1.kept (t' := s1.toks) hk
      refine ⟨s1.heap.objs.size + 4, _, _, _, H1, rfl, I2, turn_zipTL l1 p2.lt, ⟨hz, hTI, ⟨_, _, hTO⟩, ⟨_, h1, rfl, rfl⟩, ⟨_, h2, rfl, rfl⟩⟩, fun c hcm => ?_, q⟩
      have e' : c = s1.heap.objs.size + 4 ∨ c = s1.heap.objs.size + 2 ∨ c = s1.heap.objs.size + 3 ∨ c = s1.heap.objs.size ∨ c = s1.heap.objs.size + 1 := by simpa using hcm
      have hle : s1.heap.objs.size ≤ c := by
        rcases e' with z | z | z | z | z
        · rw [z]; exact Nat.le_add_right _ _
        · rw [z]; exact Nat.le_add_right _ _
        · rw [z]; exact Nat.le_add_right _ _
        · rw [z]; exact Nat.le_refl _
        · rw [z]; exact Nat.le_add_right _ _
      exact I1.fpOk hle (I1.hok.fresh hle)
end CT

namespace CT
open PySem PySem.Spec PyProof.Rows L2
/-! ### a machine that grows -/
theorem Stp.add {ι : Type} [DecidableEq ι] {H H' T : Hp} {S : ι → Hp} (N : NewPart H H' T) (q : ι) : Stp H S H' (putS S q T) where
  out := fun b o h _ => N.same b o h
  dom := fun r b h => by
    by_cases z : r = q
    · subst z
      rw [putS_same] at h
      exact .inr (N.new b h)
    · rw [putS_ne z] at h
      exact .inl ⟨r, h⟩
  tups := fun b xs h => N.same b _ h
def Gr (H0 : Hp) (S0 : MP → Hp) (Φ : MP → Hp → Prop) (H : Hp) : Prop := ∃ S, Fam H S ∧ Stp H0 S0 H S ∧ ∀ q, Φ q (S q)
section
variable {H0 H H' T : Hp} {S0 : MP → Hp} {Φ Φ' : MP → Hp → Prop}
theorem Gr.mem (g : Gr H0 S0 Φ H) {q : MP} {b : Addr} {o : HO} (h : ∀ h, Φ q h → h b = some o) : H b = some o := by
  obtain ⟨S, F, st, f⟩ := g
  exact F.sub q b o (h _ (f q))
theorem Gr.nw (g : Gr H0 S0 Φ H) {b : Addr} (hb : H b = none) (q : MP) (o : HO) (hq : ∀ h, Φ q h → h b = none → Φ' q (upd h b o)) (hr : ∀ r h, r ≠ q → Φ r h → Φ' r h) : Gr H0 S0 Φ' (upd H b o) := by
  obtain ⟨S, F, st, f⟩ := g
  refine ⟨_, F.nw hb q o, st.trans (Stp.nw hb q o), fun r => ?_⟩
  by_cases z : r = q
  · subst z
    rw [putS_same]
    exact hq _ (f r) (F.fresh hb r)
  · rw [putS_ne z]
    exact hr r _ z (f r)
theorem Gr.wr (g : Gr H0 S0 Φ H) {b : Addr} {o0 : HO} (q : MP) (hold : ∀ h, Φ q h → h b = some o0) (nt : ∀ xs, o0 ≠ .tup xs) (o : HO) (hq : ∀ h, Φ q h → Φ' q (upd h b o)) (hr : ∀ r h, r ≠ q → Φ r h → Φ' r h) : Gr H0 S0 Φ' (upd H b o) := by
  obtain ⟨S, F, st, f⟩ := g
  have e := hold _ (f q)
  refine ⟨_, F.wr e o, st.trans (Stp.wr F e nt o), fun r => ?_⟩
  by_cases z : r = q
  · subst z
    rw [putS_same]
    exact hq _ (f r)
  · rw [putS_ne z]
    exact hr r _ z (f r)
theorem Gr.add (g : Gr H0 S0 Φ H) (N : NewPart H H' T) (q : MP) (hq : Φ' q T) (hr : ∀ r h, r ≠ q → Φ r h → Φ' r h) : Gr H0 S0 Φ' H' := by
  obtain ⟨S, F, st, f⟩ := g
  refine ⟨_, F.add N q, st.trans (Stp.add N q), fun r => ?_⟩
  by_cases z : r = q
  · subst z
    rw [putS_same]
    exact hq
  · rw [putS_ne z]
    exact hr r _ z (f r)
theorem Gr.same (g : Gr H0 S0 Φ H) (s : Same H H') : Gr H0 S0 Φ H' := by
  obtain ⟨S, F, st, f⟩ := g
  exact ⟨S, F.same s, st.trans (Stp.same s), f⟩
end
theorem Gr.mono {H0 H : Hp} {S0 : MP → Hp} {Φ Φ' : MP → Hp → Prop} (g : Gr H0 S0 Φ H) (k : ∀ q h, Φ q h → Φ' q h) : Gr H0 S0 Φ' H := by
  obtain ⟨S, F, st, f⟩ := g
  exact ⟨S, F, st, fun q => k q _ (f q)⟩
/-- the parts of a machine that grows: its fields, its lists, its contents, its locks, queues and threads -/
def Mk0 (K : PySem.W.Frag) (a dx : Addr) (fs : List (PySem.Str × V)) (ls : List (Addr × List V)) (cs : Option (Addr × List Int)) (la qa : List Addr) (lk : Nat → Addr → Hp → Prop) (qu : Nat → Addr → Hp → Prop) (ta : List Addr) (th : Nat → Addr → Hp → Prop) : MP → Hp → Prop
  | .main, h => h a = some (.ins (cMach K) dx fs) ∧ (ls.map Prod.fst).Nodup ∧ ∀ c ∈ ls, h c.1 = some (.lst c.2)
  | .cont, h => ∀ c, cs = some c → h c.1 = some (.lst (c.2.map V.int))
  | .lock k, h => ∀ b, la[k]? = some b → lk k b h
  | .que k, h => ∀ b, qa[k]? = some b → qu k b h
  | .thr k, h => ∀ b, ta[k]? = some b → th k b h
section
variable {K : PySem.W.Frag} {a dx : Addr} {fs fs' : List (PySem.Str × V)} {ls : List (Addr × List V)} {cs : Option (Addr × List Int)} {la qa ta : List Addr} {lk qu th : Nat → Addr → Hp → Prop} {H0 H H' T : Hp} {S0 : MP → Hp} {b : Addr} {xs ys : List V}
theorem mk0_ins {h : Hp} (m : Mk0 K a dx fs ls cs la qa lk qu ta th .main h) : h a = some (.ins (cMach K) dx fs) := m.1
theorem mk0_lst {h : Hp} (m : Mk0 K a dx fs ((b, xs) :: ls) cs la qa lk qu ta th .main h) : h b = some (.lst xs) := m.2.2 (b, xs) (List.mem_cons_self ..)
theorem mk0_cont {h : Hp} {zs : List Int} (m : Mk0 K a dx fs ls (some (b, zs)) la qa lk qu ta th .cont h) : h b = some (.lst (zs.map V.int)) := m (b, zs) rfl
/-- a field is set -/
theorem Gr.fld (g : Gr H0 S0 (Mk0 K a dx fs ls cs la qa lk qu ta th) H) {f : PySem.Str} {y : V} (c : Cls K (cMach K)) (na : NoAttr K (cMach K) f) (hl : fs.length < 1000) (e : putF f y fs = fs') {Q : Hp → Prop} (q : ∀ H', Gr H0 S0 (Mk0 K a dx fs' ls cs la qa lk qu ta th) H' → Q H') :
    ∃ a' C' dx' fs2, V.ref a = .ref a' ∧ H a' = some (.ins C' dx' fs2) ∧ Cls K C' ∧ NoAttr K C' f ∧ fs2.length < 1000 ∧ Q (upd H a' (.ins C' dx' (putF f y fs2))) :=
  r_set (g.mem (q := .main) fun h m => mk0_ins m) c na hl e (q _ (g.wr .main (fun h m => mk0_ins m) ins_tup _ (fun h m => ⟨upd_same, m.2.1, fun c hc => by rw [upd_ne (ne_of (m.2.2 c hc) m.1 lst_ins)]; exact m.2.2 c hc⟩) fun r h z m => by
    cases r with
    | main => exact absurd rfl z
    | _ => exact m))
/-- a new list of the machine's own -/
theorem Gr.lst (g : Gr H0 S0 (Mk0 K a dx fs ls cs la qa lk qu ta th) H) (hb : H b = none) : Gr H0 S0 (Mk0 K a dx fs ((b, xs) :: ls) cs la qa lk qu ta th) (upd H b (.lst xs)) :=
  g.nw hb .main _ (fun h m hn => ⟨by rw [upd_ne (ne_of_none m.1 hn)]; exact m.1, (by
    rw [List.map_cons, List.nodup_cons]
    refine ⟨fun z => ?_, m.2.1⟩
    obtain ⟨c, hc, e⟩ := List.mem_map.mp z
    have := m.2.2 c hc
    rw [e, hn] at this
    cases this), fun c hc => by
    rcases List.mem_cons.mp hc with rfl | hc
    · exact upd_same
    · rw [upd_ne (ne_of_none (m.2.2 c hc) hn)]
      exact m.2.2 c hc⟩) fun r h z m => by
    cases r with
    | main => exact absurd rfl z
    | _ => exact m
/-- the newest list is written -/
theorem Gr.set (g : Gr H0 S0 (Mk0 K a dx fs ((b, xs) :: ls) cs la qa lk qu ta th) H) : Gr H0 S0 (Mk0 K a dx fs ((b, ys) :: ls) cs la qa lk qu ta th) (upd H b (.lst ys)) :=
  g.wr .main (fun h m => mk0_lst m) lst_tup _ (fun h m => ⟨by rw [upd_ne (ne_of m.1 (mk0_lst m) (fun z => lst_ins z.symm))]; exact m.1, m.2.1, fun c hc => by
    rcases List.mem_cons.mp hc with rfl | hc
    · exact upd_same
    · have nd := m.2.1
      rw [List.map_cons, List.nodup_cons] at nd
      rw [upd_ne (fun z => nd.1 (List.mem_map.mpr ⟨c, hc, z⟩))]
      exact m.2.2 c (List.mem_cons_of_mem _ hc)⟩) fun r h z m => by
    cases r with
    | main => exact absurd rfl z
    | _ => exact m
theorem Gr.cnt (g : Gr H0 S0 (Mk0 K a dx fs ls none la qa lk qu ta th) H) (hb : H b = none) (zs : List Int) : Gr H0 S0 (Mk0 K a dx fs ls (some (b, zs)) la qa lk qu ta th) (upd H b (.lst (zs.map V.int))) :=
  g.nw hb .cont _ (fun h m hn c hc => by
    cases hc
    exact upd_same) fun r h z m => by
    cases r with
    | cont => exact absurd rfl z
    | _ => exact m
theorem app_get {α : Type} {l : List α} {x y : α} {k : Nat} (h : (l ++ [x])[k]? = some y) (n : k ≠ l.length) : l[k]? = some y := by
  rcases Nat.lt_or_ge k l.length with c | c
  · rw [List.getElem?_append_left c] at h
    exact h
  · have := (List.getElem?_eq_some_iff.mp h).1
    simp at this
    omega
theorem app_last {α : Type} {l : List α} {x y : α} (h : (l ++ [x])[l.length]? = some y) : y = x := by
  simp at h
  exact h.symm
theorem Gr.lock (g : Gr H0 S0 (Mk0 K a dx fs ls cs la qa lk qu ta th) H) (N : NewPart H H' T) (k : lk la.length b T) : Gr H0 S0 (Mk0 K a dx fs ls cs (la ++ [b]) qa lk qu ta th) H' :=
  g.add N (.lock la.length) (fun c hc => by rw [app_last hc]; exact k) fun r h z m => by
    cases r with
    | lock j => exact fun c hc => m c (app_get hc fun e => z (by rw [e]))
    | _ => exact m
theorem Gr.thr (g : Gr H0 S0 (Mk0 K a dx fs ls cs la qa lk qu ta th) H) (N : NewPart H H' T) (k : th ta.length b T) : Gr H0 S0 (Mk0 K a dx fs ls cs la qa lk qu (ta ++ [b]) th) H' :=
  g.add N (.thr ta.length) (fun c hc => by rw [app_last hc]; exact k) fun r h z m => by
    cases r with
    | thr j => exact fun c hc => m c (app_get hc fun e => z (by rw [e]))
    | _ => exact m
theorem Gr.que (g : Gr H0 S0 (Mk0 K a dx fs ls cs la qa lk qu ta th) H) (hb : H b = none) {o : HO} (k : qu qa.length b (only (upd H b o) [b])) : Gr H0 S0 (Mk0 K a dx fs ls cs la (qa ++ [b]) lk qu ta th) (upd H b o) :=
  g.add (NewPart.of (same_new hb) (l := [b]) (by simpa using hb)) (.que qa.length) (fun c hc => by rw [app_last hc]; exact k) fun r h z m => by
    cases r with
    | que j => exact fun c hc => m c (app_get hc fun e => z (by rw [e]))
    | _ => exact m
end
def S1 (H : Hp) (a : Addr) : MP → Hp := putS (fun _ => emp) .main (only H [a])
theorem s1_off {H : Hp} {a b : Addr} (h : b ≠ a) : ∀ q, S1 H a q b = none := fun q => by
  unfold S1
  by_cases z : q = .main
  · subst z
    rw [putS_same]
    exact if_neg (by simpa using h)
  · rw [putS_ne z]
    rfl
theorem Gr.begin {K : PySem.W.Frag} {a dx : Addr} {H : Hp} {lk qu th : Nat → Addr → Hp → Prop} (h : H a = some (.ins (cMach K) dx [])) : Gr H (S1 H a) (Mk0 K a dx [] [] none [] [] lk qu [] th) H := by
  refine ⟨S1 H a, ⟨fun q b o e => ?_, fun q r b x y => ?_⟩, Stp.refl _ _, fun q => ?_⟩
  · by_cases z : b = a
    · subst z
      unfold S1 at e
      by_cases w : q = .main
      · subst w
        rw [putS_same, only_in (by simp)] at e
        exact e
      · rw [putS_ne w] at e
        cases e
    · rw [s1_off z q] at e
      cases e
  · have key : ∀ q, S1 H a q b ≠ none → q = .main := fun q x => by
      by_cases w : q = .main
      · exact w
      · unfold S1 at x
        rw [putS_ne w] at x
        exact absurd rfl x
    rw [key q x, key r y]
  · cases q with
    | main =>
      refine ⟨?_, List.nodup_nil, fun c hc => by cases hc⟩
      unfold S1
      rw [putS_same, only_in (by simp)]
      exact h
    | cont => exact fun c hc => by cases hc
    | lock k => exact fun c hc => by simp at hc
    | que k => exact fun c hc => by simp at hc
    | thr k => exact fun c hc => by simp at hc
/-- a machine made -/
theorem Gr.machine {K : PySem.W.Frag} {dx : Addr} {H0 H : Hp} {S0 : MP → Hp} {L : Lay} {p : Prog} {m : Mach} {n : Nat}
    (g : Gr H0 S0 (Mk0 K L.a dx (mF L n) [(L.tl, L.ta.map V.ref), (L.ql, L.qa.map V.ref), (L.ll, L.la.map V.ref)] (some (L.ct, m.shared)) L.la L.qa (fun k b h => ∀ y, m.locks[k]? = some y → ∃ dx od fv f, LkAt K H h b y dx od fv f) (fun k b h => ∀ q, m.queues[k]? = some q → h b = some (.lst (q.map natV))) L.ta
      (fun k b h => ∀ x, m.threads[k]? = some x → ∃ cr d dx rg pr, L.crs[k]? = some cr ∧ p.threads[k]? = some d ∧ ThAt K h b cr d.weight x dx rg pr)) H)
    (tlen : L.ta.length = m.threads.length) (llen : L.la.length = m.locks.length) (qlen : L.qa.length = m.queues.length) : ∃ S, MW K H S L p m n ∧ Stp H0 S0 H S := by
  obtain ⟨S, F, st, f⟩ := g
  have fm := f .main
  refine ⟨S, ⟨F, ⟨⟨dx, fm.1⟩, fm.2.2 (L.tl, L.ta.map V.ref) (by simp), fm.2.2 (L.ll, L.la.map V.ref) (by simp), fm.2.2 (L.ql, L.qa.map V.ref) (by simp), mk0_cont (f .cont), tlen, llen, qlen, fun k x hx => ?_, fun k y hy => ?_, fun k q hq => ?_⟩⟩, st⟩
  · have hk : k < L.ta.length := by
      rw [tlen]
      exact (List.getElem?_eq_some_iff.mp hx).1
    obtain ⟨b, hb⟩ := get_lt hk
    obtain ⟨cr, d, dx, rg, pr, e1, e2, T⟩ := f (.thr k) b hb x hx
    exact ⟨b, cr, d, dx, rg, pr, hb, e1, e2, T⟩
  · have hk : k < L.la.length := by
      rw [llen]
      exact (List.getElem?_eq_some_iff.mp hy).1
    obtain ⟨b, hb⟩ := get_lt hk
    obtain ⟨dx, od, fv, f', T⟩ := f (.lock k) b hb y hy
    exact ⟨b, dx, od, fv, f', hb, T⟩
  · have hk : k < L.qa.length := by
      rw [qlen]
      exact (List.getElem?_eq_some_iff.mp hq).1
    obtain ⟨b, hb⟩ := get_lt hk
    exact ⟨b, hb, f (.que k) b hb q hq⟩
end CT

namespace CT
open PySem PySem.Spec PyProof.Rows L2
theorem begin_eq (d : R7285d.Spec.ThreadD) : d.begin = begun (if d.started then .running else .idle) := by
  cases h : d.started <;> simp [R7285d.Spec.ThreadD.begin, begun, h] <;> rfl
section
variable {P : Program} {w : World} {K : PySem.W.Frag} {mg : PySem.Str → Option Value} {base : Heap}
def spMachine (K : PySem.W.Frag) : Sp := sp1 fun x H Q _ => ∃ pa p crs, x = .ref pa ∧ PAt K H pa p crs ∧ Fit p ∧ ∀ H' S L, L.pa = pa → L.crs = crs → Same H H' → (∀ q b, S q b ≠ none → H b = none) → MW K H' S L p p.load 0 → Q (.ref L.a) H'
def siMachine (K : PySem.W.Frag) : Sp := sp2 fun s x H Q _ => ∃ F a dx pa p crs, s = .ref a ∧ x = .ref pa ∧ PAt K F pa p crs ∧ Fit p ∧ Same F H ∧ F a = none ∧ H a = some (.ins (cMach K) dx []) ∧
  ∀ H' S L, L.a = a → L.pa = pa → L.crs = crs → Stp H (S1 H a) H' S → MW K H' S L p p.load 0 → Q .non H'
abbrev n_init_Machine : List PySem.Str := ["self", "program", "code", "weight", "is_started", "lock", "condition"]
theorem sc_init_Machine : FnScope n_init_Machine ["self", "program"] d_init_Machine.scope := ⟨rfl, rfl, rfl, by decide +kernel, rfl, by decide +kernel, by decide +kernel⟩
theorem new_Machine (T : Tx w K mg) : New P w K mg base 4 "Machine" (spMachine K) := by
  refine new_mk (si := siMachine K) T.fd_init_Machine T.m_Machine T.g_Machine sc_init_Machine (fun _ _ _ _ _ _ us hl => match us, hl with | [_, _], _ => rfl) (fun _ _ _ _ h => sp2_len h) ?hs (fun f cdv A outer s H vs Q E hr h => ?_)
  rotate_left
  obtain ⟨_, _, rfl, F, a, dx, pa, p, crs, rfl, rfl, hp, fit, sF, nF, hA, q⟩ := h
  refine ⟨_, (pss_cons (ps_fld (pv 0) (pv 1) rfl)
      (pss_cons (ps_fld (pv 0) (pe_lst pa_nil) rfl)
      (pss_cons (ps_fld (pv 0) (pe_callTy call_list_of rfl T.f_list (by decide +kernel) (pa_cons (pe_fld (pv 1) rfl) pa_nil)) rfl)
      (pss_cons (ps_fld (pv 0) (pe_lc (own := [("lock", 5)]) rfl sc_init_Machine.nd (pi_range1 rfl T.f_range (pa_cons (pe_fld (pv 1) rfl) pa_nil)) (blkOk_by (N := n_init_Machine) (sc := d_init_Machine.scope) (by decide +kernel)) (fun _ _ _ _ _ => (pg_name (i := 5) sc_init_Machine.nd rfl (Or.inl rfl))) (fun _ _ _ _ _ => pts_nil) (fun _ _ _ _ _ => (pe_new0 (new_Lock T) hr (by decide) rfl))) rfl)
      (pss_cons (ps_fld (pv 0) (pe_lc (own := [("condition", 6)]) rfl sc_init_Machine.nd (pi_range1 rfl T.f_range (pa_cons (pe_fld (pv 1) rfl) pa_nil)) (blkOk_by (N := n_init_Machine) (sc := d_init_Machine.scope) (by decide +kernel)) (fun _ _ _ _ _ => (pg_name (i := 6) sc_init_Machine.nd rfl (Or.inl rfl))) (fun _ _ _ _ _ => pts_nil) (fun _ _ _ _ _ => (pe_lst pa_nil))) rfl)
      (pss_cons (ps_fld (pv 0) pe_int rfl)
      (pss_one (ps_for PassesOwn.never rfl (pi_zip3 rfl T.f_zip (pa_cons (pe_fld (pv 1) rfl) (pa_cons (pe_fld (pv 1) rfl) (pa_cons (pe_fld (pv 1) rfl) pa_nil)))) (pg_tup rfl (pgs_cons (pg_name (i := 2) sc_init_Machine.nd rfl (Or.inl rfl)) (pgs_cons (pg_name (i := 3) sc_init_Machine.nd rfl (Or.inl rfl)) (pgs_cons (pg_name (i := 4) sc_init_Machine.nd rfl (Or.inl rfl)) pgs_nil)))) (pss_one (ps_expr (pe_bm PySem.F.plainAttrs_list PySem.F.slot_list_append PySem.F.type_list_append mt_append (pe_fld (pv 0) rfl) (pa_cons (pe_new (new_Thread T) hr (by decide) rfl (pa_cons (pv 2) (pa_cons (pv 3) (pa_cons (pe_ifExp (pt_val (pv 4)) (pe_gi T.i_RUNNING rfl) (pe_gi T.i_IDLE rfl)) pa_nil)))) pa_nil)))))))))))), ?_⟩
  obtain ⟨dxp, c, g, wt, st, k, p1, p2, p3, p4, p5, p6⟩ := hp.ex
  have keep : ∀ {Φ : MP → Hp → Prop} {H1 : Hp}, Gr H (S1 H a) Φ H1 → ∀ {b : Addr} {o : HO}, F b = some o → H1 b = some o := fun g b o e => by
    obtain ⟨S, _, s, _⟩ := g
    exact s.out b o (sF b o e) (s1_off fun z => by
      rw [z, nF] at e
      cases e)
  have G0 := Gr.begin (lk := fun k b h => ∀ y, p.load.locks[k]? = some y → ∃ dx od fv f, LkAt K emp h b y dx od fv f) (qu := fun k b h => ∀ q, p.load.queues[k]? = some q → h b = some (.lst (q.map natV)))
    (th := fun k b h => ∀ x, p.load.threads[k]? = some x → ∃ cr d dx rg pr, crs[k]? = some cr ∧ p.threads[k]? = some d ∧ ThAt K h b cr d.weight x dx rg pr) hA
  refine ⟨_, rfl, _, rfl, G0.fld (fs' := [("program", .ref pa)]) T.c_Machine T.n_Machine_program (by show 0 < 1000; decide) rfl fun H1 G1 => ?_⟩
  refine ⟨lineOf (by show 0 ≤ 1000; decide), fun tl ntl => ?_⟩
  have G2 := G1.lst (xs := []) ntl
  refine ⟨_, rfl, G2.fld (fs' := [("program", .ref pa), ("threads", .ref tl)]) T.c_Machine T.n_Machine_threads (by show 1 < 1000; decide) rfl fun H3 G3 => ?_⟩
  refine ⟨_, rfl, r_fld (keep G3 p1) T.c_Program T.n_Program_contents pF_contents ⟨c, _, rfl, .inl (SqL.of (keep G3 p2)), fun ct nct => ?_⟩⟩
  have e4 : (p.shared.map fun d => V.int d.value) = (p.load.shared).map V.int := by
    show _ = (p.shared.map _).map V.int
    rw [List.map_map]
    rfl
  rw [e4]
  have G4 := G3.cnt nct p.load.shared
  refine ⟨_, rfl, G4.fld (fs' := [("program", .ref pa), ("threads", .ref tl), ("contents", .ref ct)]) T.c_Machine T.n_Machine_contents (by show 2 < 1000; decide) rfl fun H5 G5 => ?_⟩
  have f1 := fit.locks
  have f2 := fit.conds
  have f3 := fit.threads
  have ll1 : p.load.locks.length = p.locks := by simp [R7285d.Spec.Program.load]
  have ll2 : p.load.queues.length = p.conditions := by simp [R7285d.Spec.Program.load]
  have ll3 : p.load.threads.length = p.threads.length := by simp [R7285d.Spec.Program.load]
  -- the locks
  refine ⟨_, rfl, r_fld (keep G5 p1) T.c_Program T.n_Program_locks pF_locks ⟨_, rfl, by omega, by omega, fun ll nll => ?_⟩⟩
  rw [Int.toNat_natCast]
  have G6 := G5.lst (xs := []) nll
  refine lc_range (fun i H6 => ∃ la : List Addr, la.length = i ∧ Gr H (S1 H a) (Mk0 K a dx [("program", .ref pa), ("threads", .ref tl), ("contents", .ref ct)] [(ll, la.map V.ref), (tl, [])] (some (ct, p.load.shared)) la [] _ _ [] _) H6) ⟨[], rfl, G6⟩ ?_ ?_
  · rintro i H6 hi ⟨la, hla, G⟩
    subst hla
    refine ⟨rfl, rfl, fun H7 T7 b dxb od N7 A7 => ⟨la.map V.ref, ?_, ?_, la ++ [b], by simp, ?_⟩⟩
    · exact N7.same _ _ (G.mem (q := .main) fun h m => mk0_lst m)
    · rw [List.length_map]
      exact small1000 (by omega)
    · have G7 := G.lock (b := b) N7 (fun y hy => by
        have : y = ⟨none, none, []⟩ := by
          have : p.load.locks = List.replicate p.locks ⟨none, none, []⟩ := rfl
          rw [this] at hy
          exact List.eq_of_mem_replicate (List.mem_of_getElem? hy)
        subst this
        exact ⟨dxb, od, .non, none, A7.ins, A7.ord, trivial, A7.tell⟩)
      rw [List.map_append]
      exact G7.set
  rintro H7 ⟨la, hla, G7⟩
  refine ⟨_, rfl, G7.fld (fs' := [("program", .ref pa), ("threads", .ref tl), ("contents", .ref ct), ("locks", .ref ll)]) T.c_Machine T.n_Machine_locks (by show 3 < 1000; decide) rfl fun H8 G8 => ?_⟩
  -- the queues
  refine ⟨_, rfl, r_fld (keep G8 p1) T.c_Program T.n_Program_conditions pF_conditions ⟨_, rfl, by omega, by omega, fun ql nql => ?_⟩⟩
  rw [Int.toNat_natCast]
  have G9 := G8.lst (xs := []) nql
  refine lc_range (fun i H6 => ∃ qa : List Addr, qa.length = i ∧ Gr H (S1 H a) (Mk0 K a dx [("program", .ref pa), ("threads", .ref tl), ("contents", .ref ct), ("locks", .ref ll)] [(ql, qa.map V.ref), (ll, la.map V.ref), (tl, [])] (some (ct, p.load.shared)) la qa _ _ [] _) H6) ⟨[], rfl, G9⟩ ?_ ?_
  · rintro i H6 hi ⟨qa, hqa, G⟩
    subst hqa
    refine ⟨rfl, lineOf (by show 0 ≤ 1000; decide), fun b nb => ⟨qa.map V.ref, ?_, ?_, qa ++ [b], by simp, ?_⟩⟩
    · rw [upd_ne (fun e => by
        have := G.mem (q := .main) fun h m => mk0_lst m
        rw [e, nb] at this
        cases this)]
      exact G.mem (q := .main) fun h m => mk0_lst m
    · rw [List.length_map]
      exact small1000 (by omega)
    · have G7 := G.que (o := .lst []) nb (fun q hq => by
        have : q = [] := by
          have : p.load.queues = List.replicate p.conditions [] := rfl
          rw [this] at hq
          exact List.eq_of_mem_replicate (List.mem_of_getElem? hq)
        subst this
        rw [only_in (by simp)]
        exact upd_same)
      rw [List.map_append]
      exact G7.set
  rintro H10 ⟨qa, hqa, G10⟩
  refine ⟨_, rfl, G10.fld (fs' := [("program", .ref pa), ("threads", .ref tl), ("contents", .ref ct), ("locks", .ref ll), ("queues", .ref ql)]) T.c_Machine T.n_Machine_queues (by show 4 < 1000; decide) rfl fun H11 G11 => ?_⟩
  refine ⟨_, rfl, G11.fld (fs' := mF ⟨a, tl, ct, ll, ql, [], la, qa, pa, crs⟩ 0) T.c_Machine T.n_Machine_events (by show 5 < 1000; decide) rfl fun H12 G12 => ?_⟩
  -- the threads
  refine ⟨_, rfl, r_fld (keep G12 p1) T.c_Program T.n_Program_codes pF_codes ⟨_, rfl, r_fld (keep G12 p1) T.c_Program T.n_Program_weights pF_weights ⟨_, rfl, r_fld (keep G12 p1) T.c_Program T.n_Program_started pF_started ⟨k, wt, st, _, _, _, rfl, SqL.of (keep G12 p6), SqL.of (keep G12 p4), SqL.of (keep G12 p5), ?_⟩⟩⟩⟩
  have lc : crs.length = p.threads.length := hp.len
  have G13 : Gr H (S1 H a) (Mk0 K a dx (mF ⟨a, tl, ct, ll, ql, [], la, qa, pa, crs⟩ 0) [(tl, []), (ql, qa.map V.ref), (ll, la.map V.ref)] (some (ct, p.load.shared)) la qa _ _ [] _) H12 := G12.mono fun q h m => by
    cases q with
    | main =>
      refine ⟨m.1, ?_, ?_⟩
      · have := m.2.1
        simp only [List.map_cons, List.map_nil, List.nodup_cons, List.mem_cons, List.not_mem_nil, or_false, not_or, List.nodup_nil, not_false_eq_true, and_true] at this ⊢
        obtain ⟨⟨x1, x2⟩, x3⟩ := this
        exact ⟨⟨fun z => x2 z.symm, fun z => x3 z.symm⟩, x1⟩
      · intro c hc
        have := m.2.2 c
        simp only [List.mem_cons, List.not_mem_nil, or_false] at this hc
        refine this ?_
        rcases hc with h | h | h
        · exact .inr (.inr h)
        · exact .inl h
        · exact .inr (.inl h)
    | _ => exact m
  refine for_it (walk_zip3 (n := p.threads.length) (by simp [lc]) (by simp) (by simp)) (fun i σ H6 => ∃ ta : List Addr, ta.length = i ∧ Gr H (S1 H a) (Mk0 K a dx (mF ⟨a, tl, ct, ll, ql, [], la, qa, pa, crs⟩ 0) [(tl, ta.map V.ref), (ql, qa.map V.ref), (ll, la.map V.ref)] (some (ct, p.load.shared)) la qa _ _ ta _) H6 ∧ ∃ o2 o3 o4 o5 o6, σ = [some (.ref a), some (.ref pa), o2, o3, o4, o5, o6])
    ⟨[], rfl, G13, _, _, _, _, _, rfl⟩ (fun i σ H6 _ ⟨ta, _, G, _⟩ => ⟨SqL.of (keep G p6), SqL.of (keep G p4), SqL.of (keep G p5)⟩) ?_ ?_
  · rintro i v σ H6 H7 hi ⟨ta, hta, G, o2, o3, o4, o5, o6, rfl⟩ ⟨Tt, x, y, z, rfl, nT, rfl, e1, e2, e3⟩
    subst hta
    obtain ⟨d, hd⟩ := get_lt hi
    obtain ⟨cr, hcr⟩ := get_lt (l := crs) (i := ta.length) (by omega)
    rw [mapRef hcr] at e1
    rw [List.getElem?_map, hd] at e2 e3
    cases e1
    cases e2
    cases e3
    have sT : Same H6 (upd H6 Tt (.tup [.ref cr, natV d.weight, .bl d.started])) := same_new nT
    have GT := G.same sT
    have hM := GT.mem (q := .main) fun h m => mk0_ins m
    have hL := GT.mem (q := .main) fun h m => mk0_lst m
    refine ⟨Tt, _, rfl, SqT.of upd_same, rfl, _, _, rfl, _, _, rfl, _, _, rfl, rfl, ?_⟩
    refine ⟨_, rfl, r_fld hM T.c_Machine T.n_Machine_threads mF_threads ⟨.inl ⟨rfl, _, SqL.of hL⟩, _, rfl, _, rfl, _, rfl, _, rfl, ?_⟩⟩
    have fin : ∀ md : R7285d.Spec.Mode, md = (if d.started then R7285d.Spec.Mode.running else .idle) → ∀ H' T' b dx' rg pr, NewPart (upd H6 Tt (.tup [.ref cr, natV d.weight, .bl d.started])) H' T' → ThAt K T' b cr d.weight (begun md) dx' rg pr →
        rAppend (.ref tl) [.ref b] H' fun _ H8 => ∃ ta' : List Addr, ta'.length = ta.length + 1 ∧ Gr H (S1 H a) (Mk0 K a dx (mF ⟨a, tl, ct, ll, ql, [], la, qa, pa, crs⟩ 0) [(tl, ta'.map V.ref), (ql, qa.map V.ref), (ll, la.map V.ref)] (some (ct, p.load.shared)) la qa (fun k b h => ∀ y, p.load.locks[k]? = some y → ∃ dx od fv f, LkAt K emp h b y dx od fv f) (fun k b h => ∀ q, p.load.queues[k]? = some q → h b = some (.lst (q.map natV))) ta'
          (fun k b h => ∀ x, p.load.threads[k]? = some x → ∃ cr d dx rg pr, crs[k]? = some cr ∧ p.threads[k]? = some d ∧ ThAt K h b cr d.weight x dx rg pr)) H8 ∧ ∃ z2 z3 z4 z5 z6, ([some (.ref a), some (.ref pa), some (.ref cr), some (natV d.weight), some (.bl d.started), o5, o6] : L2.St) = [some (.ref a), some (.ref pa), z2, z3, z4, z5, z6] := by
      intro md hmd H' T' b dx' rg pr N A
      refine ⟨tl, _, _, rfl, rfl, N.same _ _ hL, lt_line (by rw [List.length_map]; omega), ta ++ [b], by simp, ?_, _, _, _, _, _, rfl⟩
      have G7 := GT.thr (b := b) N (fun x hx => by
        have ex : x = d.begin := by
          have : p.load.threads = p.threads.map R7285d.Spec.ThreadD.begin := rfl
          rw [this, List.getElem?_map, hd] at hx
          exact (Option.some.inj hx).symm
        subst ex
        rw [begin_eq, ← hmd]
        exact ⟨cr, d, dx', rg, pr, hcr, hd, A⟩)
      rw [List.map_append]
      exact G7.set
    cases hs : d.started with
    | true =>
      refine if_t rfl ⟨_, _, _, rfl, cr, d.weight, .running, rfl, rfl, rfl, ?_⟩
      exact fin .running (by rw [hs]; rfl)
    | false =>
      refine if_f rfl ⟨_, _, _, rfl, cr, d.weight, .idle, rfl, rfl, rfl, ?_⟩
      exact fin .idle (by rw [hs]; rfl)
  · rintro σ H6 ⟨ta, hta, G, o2, o3, o4, o5, o6, rfl⟩
    have G' : Gr H (S1 H a) (Mk0 K a dx (mF ⟨a, tl, ct, ll, ql, ta, la, qa, pa, crs⟩ 0) [(tl, ta.map V.ref), (ql, qa.map V.ref), (ll, la.map V.ref)] (some (ct, p.load.shared)) la qa (fun k b h => ∀ y, p.load.locks[k]? = some y → ∃ dx od fv f, LkAt K H6 h b y dx od fv f) _ ta _) H6 := G.mono fun q h m => by
      cases q with
      | lock k =>
        intro b hb y hy
        obtain ⟨dx, od, fv, f, A⟩ := m b hb y hy
        exact ⟨dx, od, fv, f, A.tups fun _ _ e => by cases e⟩
      | _ => exact m
    obtain ⟨S, W, s⟩ := G'.machine (L := ⟨a, tl, ct, ll, ql, ta, la, qa, pa, crs⟩) (by rw [ll3]; exact hta) (by rw [ll1]; exact hla) (by rw [ll2]; exact hqa)
    exact q H6 S _ rfl rfl rfl s W
  · rintro vs H Q ⟨_, rfl, pa, p, crs, rfl, hp, fit, q⟩ a dx na nd ne
    have s0 : Same H (upd (upd H dx (.own a)) a (.ins (cMach K) dx [])) := made_same na nd fun b o h _ => h
    refine ⟨_, _, rfl, H, a, dx, pa, p, crs, rfl, rfl, hp, fit, s0, na, upd_same, fun H' S L e1 e2 e3 st W => ⟨rfl, ?_⟩⟩
    subst e1
    refine q H' S L e2 e3 (fun b o h => ?_) (fun r b h => ?_) W
    · exact st.out b o (s0 b o h) (s1_off (ne_of_none h na))
    · by_cases z : b = L.a
      · rw [z]
        exact na
      · rcases st.dom r b h with ⟨t, k⟩ | k
        · exact absurd (s1_off z t) k
        · exact made_none na nd k
end
end CT


namespace CT
open PySem PySem.Spec PyProof.Rows L2
section
variable {K : PySem.W.Frag} {a dx : Addr} {fs : List (PySem.Str × V)} {cs : Option (Addr × List Int)} {la qa ta : List Addr} {lk qu th : Nat → Addr → Hp → Prop} {H0 H : Hp} {S0 : MP → Hp} {b c d : Addr} {xs ys zs : List V}
theorem Gr.rot (g : Gr H0 S0 (Mk0 K a dx fs [(b, xs), (c, ys), (d, zs)] cs la qa lk qu ta th) H) : Gr H0 S0 (Mk0 K a dx fs [(d, zs), (b, xs), (c, ys)] cs la qa lk qu ta th) H := g.mono fun q h m => by
  cases q with
  | main =>
    refine ⟨m.1, ?_, ?_⟩
    · have := m.2.1
      simp only [List.map_cons, List.map_nil, List.nodup_cons, List.mem_cons, List.not_mem_nil, or_false, not_or, List.nodup_nil, not_false_eq_true, and_true] at this ⊢
      obtain ⟨⟨x1, x2⟩, x3⟩ := this
      exact ⟨⟨fun z => x2 z.symm, fun z => x3 z.symm⟩, x1⟩
    · intro c hc
      have := m.2.2 c
      simp only [List.mem_cons, List.not_mem_nil, or_false] at this hc
      refine this ?_
      rcases hc with h | h | h
      · exact .inr (.inr h)
      · exact .inl h
      · exact .inr (.inl h)
  | _ => exact m
end
def E1 : MP → Hp := fun _ => emp
theorem Gr.all {Φ : MP → Hp → Prop} {H H1 : Hp} (g : Gr H E1 Φ H1) : Same H H1 := by
  obtain ⟨S, _, s, _⟩ := g
  exact fun b o e => s.out b o e fun _ => rfl
section
variable {P : Program} {w : World} {K : PySem.W.Frag} {mg : PySem.Str → Option Value} {base : Heap}
def spMachineCopy (K : PySem.W.Frag) : Sp := sp1 fun x H Q _ => ∃ F S L p m n, x = .ref L.a ∧ MW K H S L p m n ∧ Bes K F H S L p ∧ Wf p m n ∧
  ∀ H' S' L', L'.pa = L.pa → L'.crs = L.crs → Same H H' → (∀ q b, S' q b ≠ none → H b = none) → MW K H' S' L' p m n → Q (.ref L'.a) H'
abbrev n_machine_copy : List PySem.Str := ["machine", "found", "thread", "lock", "queue"]
theorem sc_machine_copy : FnScope n_machine_copy ["machine"] d_machine_copy.scope := ⟨rfl, rfl, rfl, by decide +kernel, rfl, by decide +kernel, by decide +kernel⟩
theorem c_machine_copy (T : Tx w K mg) : Cal (CX0) P w K mg base 6 "machine_copy" (spMachineCopy K) := by
  refine cal_mk T.fd_machine_copy T.g_machine_copy sc_machine_copy (fun _ _ _ _ _ _ us hl => match us, hl with | [_], _ => rfl) (fun _ _ _ _ h => sp1_len h) (fun f cdv A outer s H vs Q E hr h => ?_)
  obtain ⟨_, rfl, F, S, L, p, m, n, rfl, W, B, wf, q⟩ := h
  refine ⟨_, PSs.nox ((pss_cons (ps_set (i := 1) sc_machine_copy.nd rfl (Or.inl rfl) (pe_new (new_Machine T) hr (by decide) rfl (pa_cons (pe_fld (pv 0) rfl) pa_nil)))
      (pss_cons (ps_fld (pv 1) (pe_lc (own := [("thread", 2)]) rfl sc_machine_copy.nd (pi_list (pe_fld (pv 0) rfl)) (blkOk_by (N := n_machine_copy) (sc := d_machine_copy.scope) (by decide +kernel)) (fun _ _ _ _ _ => (pg_name (i := 2) sc_machine_copy.nd rfl (Or.inl rfl))) (fun _ _ _ _ _ => pts_nil) (fun _ _ _ _ _ => (pe_cal (c_thread_copy T) hr (by decide) rfl passC (pa_cons (pv 2) pa_nil)))) rfl)
      (pss_cons (ps_fld (pv 1) (pe_callTy call_list_of rfl T.f_list (by decide +kernel) (pa_cons (pe_fld (pv 0) rfl) pa_nil)) rfl)
      (pss_cons (ps_fld (pv 1) (pe_lc (own := [("lock", 3)]) rfl sc_machine_copy.nd (pi_list (pe_fld (pv 0) rfl)) (blkOk_by (N := n_machine_copy) (sc := d_machine_copy.scope) (by decide +kernel)) (fun _ _ _ _ _ => (pg_name (i := 3) sc_machine_copy.nd rfl (Or.inl rfl))) (fun _ _ _ _ _ => pts_nil) (fun _ _ _ _ _ => (pe_cal (c_lock_copy T) hr (by decide) rfl passC (pa_cons (pv 3) pa_nil)))) rfl)
      (pss_cons (ps_fld (pv 1) (pe_lc (own := [("queue", 4)]) rfl sc_machine_copy.nd (pi_list (pe_fld (pv 0) rfl)) (blkOk_by (N := n_machine_copy) (sc := d_machine_copy.scope) (by decide +kernel)) (fun _ _ _ _ _ => (pg_name (i := 4) sc_machine_copy.nd rfl (Or.inl rfl))) (fun _ _ _ _ _ => pts_nil) (fun _ _ _ _ _ => (pe_callTy (call_list_ofK (K := K) rfl) rfl T.f_list (by decide +kernel) (pa_cons (pv 4) pa_nil)))) rfl)
      (pss_cons (ps_fld (pv 1) (pe_fld (pv 0) rfl) rfl)
      (pss_one (ps_ret (pv 1)))))))))), ?_⟩
  obtain ⟨dM, hM⟩ := W.mach
  have fit := B.fit
  have f1 := fit.locks
  have f2 := fit.conds
  have f3 := fit.threads
  have w1 := wf.threads
  have w2 := wf.locks
  have w3 := wf.queues
  refine ⟨_, rfl, r_fld hM T.c_Machine T.n_Machine_program mF_program ⟨_, rfl, L.pa, p, L.crs, rfl, B.prog.up B.in_, fit, fun H1 S1 L1 e1 e2 s1 new1 W1 => ?_⟩⟩
  obtain ⟨d1, h1⟩ := W1.at_.main
  have G1 : Gr H E1 (Mk0 K L1.a d1 (mF L1 0) [] none [] [] (fun k b h => ∀ y, m.locks[k]? = some y → ∃ dx od fv f, LkAt K H h b y dx od fv f) (fun k b h => ∀ q, m.queues[k]? = some q → h b = some (.lst (q.map natV))) []
      (fun k b h => ∀ x, m.threads[k]? = some x → ∃ cr d dx rg pr, L.crs[k]? = some cr ∧ p.threads[k]? = some d ∧ ThAt K h b cr d.weight x dx rg pr)) H1 := by
    refine ⟨S1, W1.fam, ⟨fun b o h _ => s1 b o h, fun r b h => .inr (new1 r b h), fun b xs h => s1 b _ h⟩, fun r => ?_⟩
    cases r with
    | main => exact ⟨h1, List.nodup_nil, fun c hc => by cases hc⟩
    | cont => exact fun c hc => by cases hc
    | lock k => exact fun c hc => by simp at hc
    | que k => exact fun c hc => by simp at hc
    | thr k => exact fun c hc => by simp at hc
  -- threads
  refine ⟨_, rfl, r_fld (G1.all _ _ hM) T.c_Machine T.n_Machine_threads mF_threads ⟨L.tl, rfl, ⟨_, SqL.of (G1.all _ _ W.tl)⟩, fun tl ntl => ?_⟩⟩
  have G2 := G1.lst (xs := []) ntl
  have tlen := W.at_.tlen
  have llen := W.at_.llen
  have qlen := W.at_.qlen
  refine lc_list (fun i H6 => ∃ ta : List Addr, ta.length = i ∧ Gr H E1 (Mk0 K L1.a d1 (mF L1 0) [(tl, ta.map V.ref)] none [] [] _ _ ta _) H6) ⟨[], rfl, G2⟩ (fun i H6 _ ⟨ta, _, G⟩ => SqL.of (G.all _ _ W.tl)) ?_ ?_
  · rintro i v H6 hv ⟨ta, hta, G⟩
    subst hta
    have hi : ta.length < m.threads.length := by
      have := (List.getElem?_eq_some_iff.mp hv).1
      rw [List.length_map] at this
      omega
    obtain ⟨x, hx⟩ := get_lt hi
    obtain ⟨b, cr, d, dx, rg, pr, g1, g2, g3, TS, TH⟩ := W.thread hx
    rw [mapRef g1] at hv
    cases hv
    refine ⟨rfl, _, rfl, _, rfl, b, cr, d.weight, x, dx, rg, pr, rfl, TH.up G.all, fun H7 T7 b' dx' rg' pr' N7 A7 => ⟨ta.map V.ref, ?_, ?_, ta ++ [b'], by simp, ?_⟩⟩
    · exact N7.same _ _ (G.mem (q := .main) fun h m => mk0_lst m)
    · rw [List.length_map]
      exact small1000 (by omega)
    · have G7 := G.thr (b := b') N7 (fun x' hx' => by
        rw [hx] at hx'
        cases hx'
        exact ⟨cr, d, dx', rg', pr', g2, g3, A7⟩)
      rw [List.map_append]
      exact G7.set
  rintro H3 ⟨ta, hta, G3⟩
  refine ⟨_, rfl, G3.fld (fs' := mF { L1 with tl := tl } 0) T.c_Machine T.n_Machine_threads (by show 6 < 1000; decide) (by kernel_rfl) fun H4 G4 => ?_⟩
  -- contents
  refine ⟨_, rfl, r_fld (G4.all _ _ hM) T.c_Machine T.n_Machine_contents mF_contents ⟨L.ct, _, rfl, .inl (SqL.of (G4.all _ _ W.ct)), fun ct nct => ?_⟩⟩
  have G5 := G4.cnt nct m.shared
  refine ⟨_, rfl, G5.fld (fs' := mF { L1 with tl := tl, ct := ct } 0) T.c_Machine T.n_Machine_contents (by show 6 < 1000; decide) (by kernel_rfl) fun H6 G6 => ?_⟩
  -- locks
  refine ⟨_, rfl, r_fld (G6.all _ _ hM) T.c_Machine T.n_Machine_locks mF_locks ⟨L.ll, rfl, ⟨_, SqL.of (G6.all _ _ W.ll)⟩, fun ll nll => ?_⟩⟩
  have G7 := G6.lst (xs := []) nll
  refine lc_list (fun i H6 => ∃ la : List Addr, la.length = i ∧ Gr H E1 (Mk0 K L1.a d1 (mF { L1 with tl := tl, ct := ct } 0) [(ll, la.map V.ref), (tl, ta.map V.ref)] (some (ct, m.shared)) la [] _ _ ta _) H6) ⟨[], rfl, G7⟩ (fun i H6 _ ⟨ta, _, G⟩ => SqL.of (G.all _ _ W.ll)) ?_ ?_
  · rintro i v H6 hv ⟨la, hla, G⟩
    subst hla
    have hi : la.length < m.locks.length := by
      have := (List.getElem?_eq_some_iff.mp hv).1
      rw [List.length_map] at this
      omega
    obtain ⟨y, hy⟩ := get_lt hi
    obtain ⟨b, dx, od, fv, f, g1, LS, LH, LO⟩ := W.lock hy
    rw [mapRef g1] at hv
    cases hv
    refine ⟨rfl, _, rfl, _, rfl, S (.lock la.length), b, y, dx, od, fv, f, rfl, (W.fam.same_in _).trans G.all, LS.tups fun c xs e => G.all _ _ e, fun H7 T7 b' dx' od' N7 A7 => ⟨la.map V.ref, ?_, ?_, la ++ [b'], by simp, ?_⟩⟩
    · exact N7.same _ _ (G.mem (q := .main) fun h m => mk0_lst m)
    · rw [List.length_map]
      exact small1000 (by omega)
    · have G7 := G.lock (b := b') N7 (fun y' hy' => by
        rw [hy] at hy'
        cases hy'
        exact ⟨dx', od', fv, f, A7.ins, A7.ord, LS.frd, A7.tell⟩)
      rw [List.map_append]
      exact G7.set
  rintro H8 ⟨la, hla, G8⟩
  refine ⟨_, rfl, G8.fld (fs' := mF { L1 with tl := tl, ct := ct, ll := ll } 0) T.c_Machine T.n_Machine_locks (by show 6 < 1000; decide) (by kernel_rfl) fun H9 G9 => ?_⟩
  -- queues
  refine ⟨_, rfl, r_fld (G9.all _ _ hM) T.c_Machine T.n_Machine_queues mF_queues ⟨L.ql, rfl, ⟨_, SqL.of (G9.all _ _ W.ql)⟩, fun ql nql => ?_⟩⟩
  have G10 := G9.lst (xs := []) nql
  refine lc_list (fun i H6 => ∃ qa : List Addr, qa.length = i ∧ Gr H E1 (Mk0 K L1.a d1 (mF { L1 with tl := tl, ct := ct, ll := ll } 0) [(ql, qa.map V.ref), (ll, la.map V.ref), (tl, ta.map V.ref)] (some (ct, m.shared)) la qa _ _ ta _) H6) ⟨[], rfl, G10⟩ (fun i H6 _ ⟨ta, _, G⟩ => SqL.of (G.all _ _ W.ql)) ?_ ?_
  · rintro i v H6 hv ⟨qa, hqa, G⟩
    subst hqa
    have hi : qa.length < m.queues.length := by
      have := (List.getElem?_eq_some_iff.mp hv).1
      rw [List.length_map] at this
      omega
    obtain ⟨y, hy⟩ := get_lt hi
    obtain ⟨b, g1, QS, QH⟩ := W.queue hy
    rw [mapRef g1] at hv
    cases hv
    refine ⟨rfl, _, rfl, b, _, rfl, .inl (SqL.of (G.all _ _ QH)), fun b' nb' => ⟨qa.map V.ref, ?_, ?_, qa ++ [b'], by simp, ?_⟩⟩
    · rw [upd_ne (fun e => by
        have := G.mem (q := .main) fun h m => mk0_lst m
        rw [e, nb'] at this
        cases this)]
      exact G.mem (q := .main) fun h m => mk0_lst m
    · rw [List.length_map]
      exact small1000 (by omega)
    · have G7 := G.que (o := .lst (y.map natV)) nb' (fun y' hy' => by
        rw [hy] at hy'
        cases hy'
        rw [only_in (by simp)]
        exact upd_same)
      rw [List.map_append]
      exact G7.set
  rintro H11 ⟨qa, hqa, G11⟩
  refine ⟨_, rfl, G11.fld (fs' := mF { L1 with tl := tl, ct := ct, ll := ll, ql := ql } 0) T.c_Machine T.n_Machine_queues (by show 6 < 1000; decide) (by kernel_rfl) fun H12 G12 => ?_⟩
  refine ⟨_, rfl, r_fld (G12.all _ _ hM) T.c_Machine T.n_Machine_events mF_events ⟨_, rfl, G12.fld (fs' := mF ⟨L1.a, tl, ct, ll, ql, ta, la, qa, L1.pa, L1.crs⟩ n) T.c_Machine T.n_Machine_events (by show 6 < 1000; decide) (by kernel_rfl) fun H13 G13 => ?_⟩⟩
  have G14 : Gr H E1 (Mk0 K L1.a d1 (mF ⟨L1.a, tl, ct, ll, ql, ta, la, qa, L1.pa, L1.crs⟩ n) [(tl, ta.map V.ref), (ql, qa.map V.ref), (ll, la.map V.ref)] (some (ct, m.shared)) la qa (fun k b h => ∀ y, m.locks[k]? = some y → ∃ dx od fv f, LkAt K H13 h b y dx od fv f) _ ta
      (fun k b h => ∀ x, m.threads[k]? = some x → ∃ cr d dx rg pr, L1.crs[k]? = some cr ∧ p.threads[k]? = some d ∧ ThAt K h b cr d.weight x dx rg pr)) H13 := G13.rot.mono fun q h m => by
    cases q with
    | lock k =>
      intro b hb y hy
      obtain ⟨dx, od, fv, f, A⟩ := m b hb y hy
      exact ⟨dx, od, fv, f, A.tups fun _ _ e => G13.all _ _ e⟩
    | thr k =>
      rw [e2]
      exact m
    | _ => exact m
  obtain ⟨S', W', s'⟩ := G14.machine (L := ⟨L1.a, tl, ct, ll, ql, ta, la, qa, L1.pa, L1.crs⟩) (by simp only; rw [List.length_map] at hta; omega) (by simp only; rw [List.length_map] at hla; omega) (by simp only; rw [List.length_map] at hqa; omega)
  refine ⟨_, rfl, q H13 S' ⟨L1.a, tl, ct, ll, ql, ta, la, qa, L1.pa, L1.crs⟩ e1 e2 G13.all (fun r b h => ?_) W'⟩
  rcases s'.dom r b h with ⟨t, k⟩ | k
  · exact absurd rfl k
  · exact k
end
end CT


namespace CT
open PySem PySem.Spec PyProof.Rows L2
abbrev cOut (K : PySem.W.Frag) : Addr := He.ga K "Outcome"
def oF (e : PySem.Str) (l r : V) : List (PySem.Str × V) := [("ending", .str e), ("length", l), ("race", r)]
section
variable {e e' : PySem.Str} {l l' r r' : V}
theorem oF_ending : (oF e l r).lookup ("ending" : PySem.Str) = some (.str e) := by kernel_rfl
theorem oF_length : (oF e l r).lookup ("length" : PySem.Str) = some l := by kernel_rfl
theorem oF_race : (oF e l r).lookup ("race" : PySem.Str) = some r := by kernel_rfl
theorem oF_put_ending : putF "ending" (.str e') (oF e l r) = oF e' l r := by kernel_rfl
theorem oF_put_length : putF "length" l' (oF e l r) = oF e l' r := by kernel_rfl
theorem oF_put_race : putF "race" r' (oF e l r) = oF e l r' := by kernel_rfl
theorem oF_len : (oF e l r).length < 1000 := by show 3 < 1000; decide
end
/-- a machine of one's own, made since H -/
structure Mine (K : PySem.W.Frag) (H : Hp) (pa : Addr) (p : Prog) (crs : List Addr) (H1 : Hp) (S : MP → Hp) (L : Lay) (m : Mach) (n : Nat) : Prop where
  W : MW K H1 S L p m n
  lpa : L.pa = pa
  lcrs : L.crs = crs
  same : Same H H1
  new : ∀ q b, S q b ≠ none → H b = none
section
variable {K : PySem.W.Frag} {H H1 H2 : Hp} {pa : Addr} {p : Prog} {crs : List Addr} {S : MP → Hp} {L : Lay} {m m' : Mach} {n n' : Nat}
theorem Mine.bes (M : Mine K H pa p crs H1 S L m n) (hp : PAt K H pa p crs) (fit : Fit p) : Bes K H H1 S L p := ⟨M.same, M.new, by rw [M.lpa, M.lcrs]; exact hp, fit⟩
theorem Mine.up (M : Mine K H pa p crs H1 S L m n) (s : Same H1 H2) : Mine K H pa p crs H2 S L m n := ⟨M.W.same s, M.lpa, M.lcrs, M.same.trans s, M.new⟩
theorem Mine.go (M : Mine K H pa p crs H1 S L m n) (G : Goes K L p H1 S H2 m' n') : ∃ S', Mine K H pa p crs H2 S' L m' n' ∧ Stp H1 S H2 S' := by
  obtain ⟨S', W', s⟩ := G
  refine ⟨S', ⟨W', M.lpa, M.lcrs, fun b o h => s.out b o (M.same b o h) fun q => ?_, fun q b h => ?_⟩, s⟩
  · rcases none_or (S q b) with e | ⟨u, e⟩
    · exact e
    · rw [M.new q b (some_ne e)] at h
      cases h
  · rcases s.dom q b h with ⟨r, k⟩ | k
    · exact M.new r b k
    · rcases none_or (H b) with e | ⟨u, e⟩
      · exact e
      · rw [M.same b u e] at k
        cases k
end
section
variable {P : Program} {w : World} {K : PySem.W.Frag} {mg : PySem.Str → Option Value} {base : Heap}
def spOutcome (K : PySem.W.Frag) : Sp := sp0 fun H Q _ => ∀ H' a dx, Same H H' → H a = none → H' a = some (.ins (cOut K) dx (oF "open" .non .non)) → Q (.ref a) H'
def siOutcome (K : PySem.W.Frag) : Sp := sp1 fun s H Q _ => ∃ a dx, s = .ref a ∧ H a = some (.ins (cOut K) dx []) ∧ ∀ H', (∀ b, b ≠ a → H' b = H b) → H' a = some (.ins (cOut K) dx (oF "open" .non .non)) → Q .non H'
abbrev n_init_Outcome : List PySem.Str := ["self"]
theorem sc_init_Outcome : FnScope n_init_Outcome ["self"] d_init_Outcome.scope := ⟨rfl, rfl, rfl, by decide +kernel, rfl, by decide +kernel, by decide +kernel⟩
theorem new_Outcome (T : Tx w K mg) : New P w K mg base 1 "Outcome" (spOutcome K) := by
  refine new_mk (si := siOutcome K) T.fd_init_Outcome T.m_Outcome T.g_Outcome sc_init_Outcome (fun _ _ _ _ _ _ us hl => match us, hl with | [_], _ => rfl) (fun _ _ _ _ h => sp1_len h) ?hs (fun f cdv A outer s H vs Q E hr h => ?_)
  rotate_left
  obtain ⟨_, rfl, a, dx, rfl, hA, q⟩ := h
  refine ⟨_, (pss_cons (ps_fld (pv 0) pe_str rfl)
      (pss_cons (ps_fld (pv 0) pe_non rfl)
      (pss_one (ps_fld (pv 0) pe_non rfl)))), ?_⟩
  refine ⟨_, rfl, r_put 0 hA (Nat.le_refl _) (by decide) T.c_Outcome T.n_Outcome_ending fun H1 h1 l1 k1 => ?_⟩
  refine ⟨_, rfl, r_put 1 h1 l1 (by decide) T.c_Outcome T.n_Outcome_length fun H2 h2 l2 k2 => ?_⟩
  refine ⟨_, rfl, r_put 2 h2 l2 (by decide) T.c_Outcome T.n_Outcome_race fun H3 h3 l3 k3 => ?_⟩
  refine q H3 (fun b hb => by rw [k3 b hb, k2 b hb, k1 b hb]) (h3.trans (congrArg (fun z => some (HO.ins (cOut K) dx z)) (by kernel_rfl)))
  · rintro vs H Q ⟨rfl, q⟩ a dx na nd ne
    refine ⟨_, rfl, a, dx, rfl, upd_same, fun H' k h1 => ⟨rfl, ?_⟩⟩
    exact q H' a dx (made_same na nd fun b o h hb => (k b hb).trans h) na h1
def spIsWaiting (K : PySem.W.Frag) : Sp := sp1 fun u H Q _ => ∃ S L p m n, u = .ref L.a ∧ MW K H S L p m n ∧ m.threads.length ≤ 500 ∧ ∀ H', Same H H' → Q (.bl (m.threads.any fun x => x.mode.isWaiting)) H'
abbrev n_is_waiting : List PySem.Str := ["machine", "thread"]
theorem sc_is_waiting : FnScope n_is_waiting ["machine"] d_is_waiting.scope := ⟨rfl, rfl, rfl, by decide +kernel, rfl, by decide +kernel, by decide +kernel⟩
theorem c_is_waiting (T : Tx w K mg) : Cal (CX0) P w K mg base 1 "is_waiting" (spIsWaiting K) := by
  refine cal_mk T.fd_is_waiting T.g_is_waiting sc_is_waiting (fun _ _ _ _ _ _ us hl => match us, hl with | [_], _ => rfl) (fun _ _ _ _ h => sp1_len h) (fun f cdv A outer s H vs Q E hr h => ?_)
  obtain ⟨_, rfl, S, L, p, m, n, rfl, W, small, q⟩ := h
  refine ⟨_, PSs.nox ((pss_one (ps_ret (pe_callB (cr_any rfl) rfl T.f_any (by decide +kernel) (pa_cons (pe_lc (own := [("thread", 1)]) rfl sc_is_waiting.nd (pi_list (pe_fld (pv 0) rfl)) (blkOk_by (N := n_is_waiting) (sc := d_is_waiting.scope) (by decide +kernel)) (fun _ _ _ _ _ => (pg_name (i := 1) sc_is_waiting.nd rfl (Or.inl rfl))) (fun _ _ _ _ _ => pts_nil) (fun _ _ _ _ _ => (pe_cmpR op_eq (pe_fldK (K := K) rfl (pv 1) rfl) (pe_gi T.i_WAITING rfl) (nomark _)))) pa_nil))))), ?_⟩
  obtain ⟨dM, hM⟩ := W.mach
  refine ⟨_, rfl, r_fld hM T.c_Machine T.n_Machine_threads mF_threads ⟨L.tl, rfl, ⟨_, SqL.of W.tl⟩, fun D nD => ?_⟩⟩
  have tlen := W.at_.tlen
  refine lc_list (fun i H1 => Same H H1 ∧ H1 D = some (.lst (((m.threads.take i).map fun x => x.mode.isWaiting).map V.bl))) ⟨same_new nD, upd_same⟩ (fun i H1 _ h => SqL.of (h.1 _ _ W.tl)) ?_ ?_
  · rintro i v H1 hv ⟨s1, hD⟩
    have hi : i < m.threads.length := by
      have := (List.getElem?_eq_some_iff.mp hv).1
      rw [List.length_map] at this
      omega
    obtain ⟨x, hx⟩ := get_lt hi
    obtain ⟨b, cr, d, dx, rg, pr, g1, g2, g3, TS, TH⟩ := W.thread hx
    rw [mapRef g1] at hv
    cases hv
    refine ⟨rfl, _, rfl, r_fld (s1 _ _ TH.ins) T.c_Thread T.n_Thread_mode tF_mode ⟨rfl, _, hD, ?_, ?_⟩⟩
    · rw [List.length_map, List.length_map, List.length_take]
      exact small1000 (by omega)
    · rw [mode_2]
      refine ⟨same_at nD s1, ?_⟩
      rw [upd_same, take_succ_get hx, List.map_append, List.map_append]
      rfl
  · rintro H1 ⟨s1, hD⟩
    rw [List.length_map, tlen, take_len] at hD
    refine ⟨D, _, rfl, SqL.of hD, ?_⟩
    have := q H1 s1
    rw [List.any_map]
    exact this
def spIsBehind (K : PySem.W.Frag) : Sp := sp2 fun u v H Q _ => ∃ S L p m n c cs, u = .ref L.a ∧ v = .ref c ∧ MW K H S L p m n ∧ m.threads.length ≤ 500 ∧ H c = some (.lst (cs.map natV)) ∧ cs.length = m.threads.length ∧
  ∀ H', Same H H' → Q (.bl ((List.zipWith (fun (y : Nat) (c : Nat) => decide (y < c)) m.counts cs).any id)) H'
abbrev n_is_behind : List PySem.Str := ["machine", "counts", "thread", "count"]
theorem sc_is_behind : FnScope n_is_behind ["machine", "counts"] d_is_behind.scope := ⟨rfl, rfl, rfl, by decide +kernel, rfl, by decide +kernel, by decide +kernel⟩
theorem c_is_behind (T : Tx w K mg) : Cal (CX0) P w K mg base 1 "is_behind" (spIsBehind K) := by
  refine cal_mk T.fd_is_behind T.g_is_behind sc_is_behind (fun _ _ _ _ _ _ us hl => match us, hl with | [_, _], _ => rfl) (fun _ _ _ _ h => sp2_len h) (fun f cdv A outer s H vs Q E hr h => ?_)
  obtain ⟨_, _, rfl, S, L, p, m, n, c, cs, rfl, rfl, W, small, hc, lc, q⟩ := h
  refine ⟨_, PSs.nox ((pss_one (ps_ret (pe_callB (cr_any rfl) rfl T.f_any (by decide +kernel) (pa_cons (pe_lc (own := [("thread", 2), ("count", 3)]) rfl sc_is_behind.nd (pi_zip rfl T.f_zip (pa_cons (pe_fld (pv 0) rfl) (pa_cons (pv 1) pa_nil))) (blkOk_by (N := n_is_behind) (sc := d_is_behind.scope) (by decide +kernel)) (fun _ _ _ _ _ => (pg_tupK (K := K) (n := 2) rfl rfl (pgs_cons (pg_name (i := 2) sc_is_behind.nd rfl (Or.inl rfl)) (pgs_cons (pg_name (i := 3) sc_is_behind.nd rfl (Or.inl rfl)) pgs_nil)))) (fun _ _ _ _ _ => pts_nil) (fun _ _ _ _ _ => (pe_cmpR op_lt (pe_fldK (K := K) rfl (pv 2) rfl) (pv 3) (nomark _)))) pa_nil))))), ?_⟩
  obtain ⟨dM, hM⟩ := W.mach
  have tlen := W.at_.tlen
  refine ⟨_, rfl, r_fld hM T.c_Machine T.n_Machine_threads mF_threads ⟨_, rfl, L.tl, c, _, _, rfl, SqL.of W.tl, SqL.of hc, fun D nD => ?_⟩⟩
  refine lc_it (walk_zip (n := m.threads.length) (by rw [List.length_map, List.length_map, tlen, lc, Nat.min_self])) (fun i H1 => Same H H1 ∧ H1 D = some (.lst ((List.zipWith (fun (y : Nat) (c : Nat) => decide (y < c)) (m.counts.take i) (cs.take i)).map V.bl))) ⟨same_new nD, upd_same⟩ (fun i H1 _ h => ⟨SqL.of (h.1 _ _ W.tl), SqL.of (h.1 _ _ hc)⟩) ?_ ?_
  · rintro i v H1 H2 hi ⟨s1, hD⟩ ⟨Tt, x0, y0, rfl, nT, rfl, e1, e2⟩
    obtain ⟨x, hx⟩ := get_lt hi
    obtain ⟨b, cr, d, dx, rg, pr, g1, g2, g3, TS, TH⟩ := W.thread hx
    obtain ⟨z, hz⟩ := get_lt (l := cs) (i := i) (by omega)
    have e1' : (L.ta.map V.ref)[i]? = some x0 := e1
    have e2' : (cs.map natV)[i]? = some y0 := e2
    rw [mapRef g1] at e1'
    rw [mapNat hz] at e2'
    cases e1'
    cases e2'
    have s2 : Same H (upd H1 Tt (.tup [.ref b, natV z])) := s1.trans (same_new nT)
    have hD2 := same_new (o := .tup [.ref b, natV z]) nT _ _ hD
    refine ⟨Tt, _, rfl, SqT.of upd_same, rfl, _, _, rfl, _, _, rfl, rfl, rfl, _, rfl, r_fld (s2 _ _ TH.ins) T.c_Thread T.n_Thread_events tF_events ⟨_, rfl, _, _, rfl, rfl, _, hD2, ?_, ?_⟩⟩
    · rw [List.length_map, List.length_zipWith, List.length_take, List.length_take]
      exact small1000 (by omega)
    · refine ⟨same_at nD s2, ?_⟩
      have hk : m.counts[i]? = some x.count := by
        unfold R7285d.Spec.Machine.counts
        rw [List.getElem?_map, hx]
        rfl
      have dec : decide ((x.count : Int) < (z : Int)) = decide (x.count < z) := decide_eq_decide.mpr ⟨fun h => by omega, fun h => by omega⟩
      rw [upd_same, take_succ_get hk, take_succ_get hz, List.zipWith_append (by
        rw [List.length_take, List.length_take]
        unfold R7285d.Spec.Machine.counts
        rw [List.length_map]
        omega), List.map_append]
      show some (HO.lst (_ ++ [V.bl (decide ((x.count : Int) < (z : Int)))])) = some (HO.lst (_ ++ [V.bl (decide (x.count < z))]))
      rw [dec]
  · rintro H1 ⟨s1, hD⟩
    have lm : m.counts.length = m.threads.length := by
      unfold R7285d.Spec.Machine.counts
      rw [List.length_map]
    have t1 : m.counts.take m.threads.length = m.counts := by rw [← lm, take_len]
    have t2 : cs.take m.threads.length = cs := by rw [← lc, take_len]
    rw [t1, t2] at hD
    exact ⟨D, _, rfl, SqL.of hD, q H1 s1⟩
end
end CT


namespace CT
open PySem PySem.Spec PyProof.Rows L2
theorem first_pos {m : Mach} {t : Nat} (h : m.first = some t) : firstI m = (t : Int) := by
  unfold firstI
  rw [h]
theorem first_neg {m : Mach} (h : m.first = none) : firstI m = -1 := by
  unfold firstI
  rw [h]
theorem first_go {p : Prog} {m : Mach} {t : Nat} (h : m.first = some t) : ∃ m' x, p.go m t = some m' ∧ m.threads[t]? = some x := by
  have il := first_some.mp h
  obtain ⟨m', hm⟩ := go_least (p := p) il
  obtain ⟨x, hx, _⟩ := il
  exact ⟨m', x, hm, hx⟩
def endS (m : Mach) : Option Nat → PySem.Str
  | none => "open"
  | some _ => if m.threads.any (fun x => x.mode.isWaiting) then "stuck" else "ended"
/-- the first race in the heap -/
def RaceV (p : Prog) (H : Hp) (r : V) : Option (Nat × Nat) → Prop
  | none => r = .non
  | some x => ∃ a v, r = .ref a ∧ H a = some (.tup [natV x.1, natV x.2, natV v]) ∧ p.access (p.one x.1) x.2 = some v
theorem RaceV.up {p : Prog} {H H' : Hp} {r : V} {o : Option (Nat × Nat)} (h : RaceV p H r o) (e : ∀ b xs, H b = some (.tup xs) → H' b = some (.tup xs)) : RaceV p H' r o := by
  cases o with
  | none => exact h
  | some x =>
    obtain ⟨a, v, h1, h2, h3⟩ := h
    exact ⟨a, v, h1, e _ _ h2, h3⟩
theorem MW.off {K : PySem.W.Frag} {H : Hp} {S : MP → Hp} {L : Lay} {p : Prog} {m : Mach} {n : Nat} (W : MW K H S L p m n) {b : Addr} {o0 : HO} (off : ∀ q, S q b = none) (h : H b = some o0) (nt : ∀ xs, o0 ≠ .tup xs) (o : HO) : MW K (upd H b o) S L p m n :=
  ⟨⟨fun q c u e => by
    rw [upd_ne (fun z => by rw [z, off q] at e; cases e)]
    exact W.fam.sub q c u e, W.fam.dis⟩, W.at_.tups (tups_wr h nt)⟩
theorem Mine.off {K : PySem.W.Frag} {H H1 : Hp} {pa : Addr} {p : Prog} {crs : List Addr} {S : MP → Hp} {L : Lay} {m : Mach} {n : Nat} (M : Mine K H pa p crs H1 S L m n) {b : Addr} {o0 : HO} (n0 : H b = none) (off : ∀ q, S q b = none) (h : H1 b = some o0) (nt : ∀ xs, o0 ≠ .tup xs) (o : HO) : Mine K H pa p crs (upd H1 b o) S L m n :=
  ⟨M.W.off off h nt o, M.lpa, M.lcrs, same_at n0 M.same, M.new⟩
section
variable {P : Program} {w : World} {K : PySem.W.Frag} {mg : PySem.Str → Option Value} {base : Heap}
def spOneAfter (K : PySem.W.Frag) : Sp := sp2 fun x y H Q _ => ∃ pa p crs k, x = .ref pa ∧ y = natV k ∧ PAt K H pa p crs ∧ Fit p ∧ k ≤ 5000 ∧ ∀ H' S L n, Mine K H pa p crs H' S L (p.one k) n → Wf p (p.one k) n → n ≤ 5000 → Q (.ref L.a) H'
abbrev n_one_after : List PySem.Str := ["program", "events", "machine"]
theorem sc_one_after : FnScope n_one_after ["program", "events"] d_one_after.scope := ⟨rfl, rfl, rfl, by decide +kernel, rfl, by decide +kernel, by decide +kernel⟩
theorem c_one_after (T : Tx w K mg) : Cal (CX0) P w K mg base 6 "one_after" (spOneAfter K) := by
  refine cal_mk T.fd_one_after T.g_one_after sc_one_after (fun _ _ _ _ _ _ us hl => match us, hl with | [_, _], _ => rfl) (fun _ _ _ _ h => sp2_len h) (fun f cdv A outer s H vs Q E hr h => ?_)
  obtain ⟨_, _, rfl, pa, p, crs, k, rfl, rfl, hp, fit, hk, q⟩ := h
  refine ⟨_, PSs.nox ((pss_cons (ps_set (i := 2) sc_one_after.nd rfl (Or.inl rfl) (pe_new (new_Machine T) hr (by decide) rfl (pa_cons (pv 0) pa_nil)))
      (pss_cons (ps_while PassesOwn.never (PW.pt (pw_and (pt_cmpR op_lt (pe_fld (pv 2) rfl) (pv 1) (nomark _)) (pw_and1 (pt_cmpR op_ge (pe_cal (c_least_of T) hr (by decide) rfl passC (pa_cons (pv 2) pa_nil)) pe_int (nomark _))))) (pss_one (ps_expr (pe_cal (c_do_event T) hr (by decide) rfl passC (pa_cons (pv 2) (pa_cons (pe_cal (c_least_of T) hr (by decide) rfl passC (pa_cons (pv 2) pa_nil)) pa_nil))))))
      (pss_one (ps_ret (pv 2)))))), ?_⟩
  have ft := fit.threads
  refine ⟨_, rfl, _, rfl, pa, p, crs, rfl, hp, fit, fun H1 S1 L1 e1 e2 s1 n1 W1 => ?_⟩
  refine ⟨fun r σ H2 => ∃ n S L, n ≤ k ∧ r = k - n ∧ Runs p n ∧ Mine K H pa p crs H2 S L (p.one n) n ∧ σ = [some (.ref pa), some (natV k), some (.ref L.a)], ⟨k, 0, S1, L1, Nat.zero_le _, rfl, Runs.zero, ⟨W1, e1, e2, s1, n1⟩, rfl⟩, ?_⟩
  rintro r σ H2 ⟨n, S, L, hn, rfl, runs, M, rfl⟩
  have wf := wf_one fit runs
  have tl : (p.one n).threads.length ≤ 1000 := by rw [wf.threads]; omega
  obtain ⟨dM, hM⟩ := M.W.mach
  refine ⟨_, rfl, r_fld hM T.c_Machine T.n_Machine_events mF_events ⟨_, rfl, _, _, rfl, rfl, _, rfl, ?_⟩⟩
  by_cases c : n < k
  · refine if_t (decide_eq_true (by omega)) ?_
    refine ⟨_, rfl, _, rfl, S, L, p, _, n, rfl, M.W, tl, fun H3 s3 => ⟨_, _, rfl, rfl, _, rfl, ?_⟩⟩
    have M3 := M.up s3
    cases hf : (p.one n).first with
    | none =>
      rw [first_neg hf]
      refine if_f (by decide) ?_
      refine ⟨_, rfl, ?_⟩
      have := q H3 S L n
      rw [one_over hf hn] at this
      exact this M3 wf (by omega)
    | some t =>
      rw [first_pos hf]
      obtain ⟨m', x, hg, hx⟩ := first_go (p := p) hf
      refine if_t (decide_eq_true (by omega)) ?_
      refine ⟨fun σ H4 => ∃ S L, Mine K H pa p crs H4 S L (p.one (n + 1)) (n + 1) ∧ σ = [some (.ref pa), some (natV k), some (.ref L.a)], fun σ' H4 ⟨S', L', M', e'⟩ => ⟨k - (n + 1), by omega, n + 1, S', L', by omega, rfl, runs.succ hf, M', e'⟩, ?_⟩
      refine ⟨_, rfl, _, rfl, _, rfl, S, L, p, _, n, rfl, M3.W, tl, fun H4 s4 => ?_⟩
      have M4 := M3.up s4
      rw [first_pos hf]
      refine ⟨_, _, rfl, H, S, L, p, _, n, t, m', rfl, rfl, M4.W, M4.bes hp fit, wf, by omega, hg, fun H5 G => ?_⟩
      obtain ⟨S5, M5, _⟩ := M4.go G
      rw [← one_succ hf hg] at M5
      exact ⟨S5, L, M5, rfl⟩
  · have e : n = k := by omega
    subst e
    refine if_f (decide_eq_false (by omega)) ?_
    exact if_f rfl ⟨_, rfl, q H2 S L n M wf (by omega)⟩
def spOneRun (K : PySem.W.Frag) : Sp := sp2 fun x y H Q _ => ∃ pa p crs k, x = .ref pa ∧ y = natV k ∧ PAt K H pa p crs ∧ Fit p ∧ k ≤ 5000 ∧
  ∀ H' a dx r, Same H H' → H' a = some (.ins (cOut K) dx (oF (endS (p.one k) (p.length k)) (optV (p.length k)) r)) → RaceV p H' r (p.race k) → Q (.ref a) H'
abbrev n_one_run : List PySem.Str := ["program", "limit", "machine", "found", "number", "variable"]
theorem sc_one_run : FnScope n_one_run ["program", "limit"] d_one_run.scope := ⟨rfl, rfl, rfl, by decide +kernel, rfl, by decide +kernel, by decide +kernel⟩
theorem c_one_run (T : Tx w K mg) : Cal (CX0) P w K mg base 6 "one_run" (spOneRun K) := by
  refine cal_mk T.fd_one_run T.g_one_run sc_one_run (fun _ _ _ _ _ _ us hl => match us, hl with | [_, _], _ => rfl) (fun _ _ _ _ h => sp2_len h) (fun f cdv A outer s H vs Q E hr h => ?_)
  obtain ⟨_, _, rfl, pa, p, crs, k, rfl, rfl, hp, fit, hk, q⟩ := h
  refine ⟨_, PSs.nox ((pss_cons (ps_set (i := 2) sc_one_run.nd rfl (Or.inl rfl) (pe_new (new_Machine T) hr (by decide) rfl (pa_cons (pv 0) pa_nil)))
      (pss_cons (ps_set (i := 3) sc_one_run.nd rfl (Or.inl rfl) (pe_new0 (new_Outcome T) hr (by decide) rfl))
      (pss_cons (ps_while PassesOwn.never (pt_cmpR op_lt (pe_fld (pv 2) rfl) (pv 1) (nomark _)) (pss_cons (ps_set (i := 4) sc_one_run.nd rfl (Or.inl rfl) (pe_cal (c_least_of T) hr (by decide) rfl passC (pa_cons (pv 2) pa_nil)))
      (pss_cons (ps_if (pt_cmpR op_lt (pv 4) pe_int (nomark _)) (pss_cons (ps_fld (pv 3) (pe_ifExp (pt_val (pe_cal (c_is_waiting T) hr (by decide) rfl passC (pa_cons (pv 2) pa_nil))) pe_str pe_str) rfl)
      (pss_cons (ps_fld (pv 3) (pe_fld (pv 2) rfl) rfl)
      (pss_one (ps_ret (pv 3))))) pss_nil)
      (pss_cons (ps_set (i := 5) sc_one_run.nd rfl (Or.inl rfl) (pe_cal (c_race_of T) hr (by decide) rfl passC (pa_cons (pv 2) (pa_cons (pv 4) pa_nil))))
      (pss_cons (ps_if (PW.pt (pw_and (pt_cmpR op_isN (pe_fld (pv 3) rfl) pe_non (nomark _)) (pw_and1 (pt_cmpR op_ge (pv 5) pe_int (nomark _))))) (pss_one (ps_fld (pv 3) (pe_tup (pa_cons (pe_fld (pv 2) rfl) (pa_cons (pv 4) (pa_cons (pv 5) pa_nil)))) rfl)) pss_nil)
      (pss_one (ps_expr (pe_cal (c_do_event T) hr (by decide) rfl passC (pa_cons (pv 2) (pa_cons (pv 4) pa_nil))))))))))
      (pss_one (ps_ret (pv 3))))))), ?_⟩
  have ft := fit.threads
  refine ⟨_, rfl, _, rfl, pa, p, crs, rfl, hp, fit, fun H1 S1 L1 e1 e2 s1 n1 W1 => ?_⟩
  refine ⟨rfl, fun H2 oa od s2 nO hO => ?_⟩
  have M2 : Mine K H pa p crs H2 S1 L1 p.load 0 := ⟨W1.same s2, e1, e2, s1.trans s2, n1⟩
  refine ⟨fun r σ H2 => ∃ n S L rv o4 o5, n ≤ k ∧ r = k - n ∧ Runs p n ∧ Mine K H pa p crs H2 S L (p.one n) n ∧ (∀ q, S q oa = none) ∧ H2 oa = some (.ins (cOut K) od (oF "open" .non rv)) ∧ RaceV p H2 rv (p.race n) ∧ σ = [some (.ref pa), some (natV k), some (.ref L.a), some (.ref oa), o4, o5],
    ⟨k, 0, S1, L1, .non, _, _, Nat.zero_le _, rfl, Runs.zero, M2, W1.fam.fresh nO, hO, by rw [race_zero]; rfl, rfl⟩, ?_⟩
  rintro r σ H3 ⟨n, S, L, rv, o4, o5, hn, rfl, runs, M, off, hO, hR, rfl⟩
  have nO' : H oa = none := s1.free nO
  have wf := wf_one fit runs
  have tl : (p.one n).threads.length ≤ 500 := by rw [wf.threads]; omega
  obtain ⟨dM, hM⟩ := M.W.mach
  refine ⟨_, rfl, r_fld hM T.c_Machine T.n_Machine_events mF_events ⟨_, rfl, _, _, rfl, rfl, _, rfl, ?_⟩⟩
  by_cases c : n < k
  · refine if_t (decide_eq_true (by omega)) ?_
    refine ⟨fun σ H4 => ∃ S L rv o4 o5, Mine K H pa p crs H4 S L (p.one (n + 1)) (n + 1) ∧ Runs p (n + 1) ∧ (∀ q, S q oa = none) ∧ H4 oa = some (.ins (cOut K) od (oF "open" .non rv)) ∧ RaceV p H4 rv (p.race (n + 1)) ∧ σ = [some (.ref pa), some (natV k), some (.ref L.a), some (.ref oa), o4, o5], ?_, ?_⟩
    · rintro σ' H4 ⟨S', L', rv', o4', o5', M', hf, off', hO', hR', e'⟩
      refine ⟨k - (n + 1), by omega, n + 1, S', L', rv', o4', o5', by omega, rfl, hf, M', off', hO', hR', e'⟩
    refine ⟨_, rfl, _, rfl, S, L, p, _, n, rfl, M.W, by omega, fun H4 s4 => ?_⟩
    have M4 := M.up s4
    have hO4 := s4 _ _ hO
    have hR4 := hR.up fun b xs e => s4 _ _ e
    refine ⟨_, rfl, _, _, rfl, rfl, _, rfl, ?_⟩
    cases hf : (p.one n).first with
    | none =>
      rw [first_neg hf]
      have lenE : p.length k = some n := length_some runs hf c
      have oneE : p.one k = p.one n := one_over hf hn
      have raceE : p.race k = p.race n := by
        have := race_over (p := p) hf (k - n)
        rw [show n + (k - n) = k by omega] at this
        exact this
      refine if_t rfl ?_
      refine ⟨_, rfl, _, rfl, S, L, p, _, n, rfl, M4.W, tl, fun H5 s5 => ?_⟩
      have M5 := M4.up s5
      have hO5 := s5 _ _ hO4
      have hR5 := hR4.up fun b xs e => s5 _ _ e
      have fin : ∀ e : PySem.Str, endS (p.one k) (p.length k) = e → sFld K (tVar 3) (tC (.str e)) "ending" { nx := fun σ H => (tSeq (sFld K (tVar 3) (tFld K (tVar 2) "events") "length") (tRet (tVar 3))) { nx := fun _ H' => Q .non H', rt := Q } σ H, rt := Q } [some (.ref pa), some (natV k), some (.ref L.a), some (.ref oa), some (.int (-1)), o5] H5 := fun e he => by
        refine ⟨_, rfl, r_set hO5 T.c_Outcome T.n_Outcome_ending oF_len oF_put_ending ?_⟩
        have kp : ∀ {b : Addr} {o : HO} (o' : HO), b ≠ oa → H5 b = some o → upd H5 oa o' b = some o := fun o' ne h => by
          rw [upd_ne ne]
          exact h
        obtain ⟨dM5, hM5⟩ := M5.W.mach
        have ne : L.a ≠ oa := ne_of hM5 hO5 (fun z => by
          have := HO.ins.inj z
          have h3 := this.2.2
          cases h3)
        refine ⟨_, rfl, r_fld (kp _ ne hM5) T.c_Machine T.n_Machine_events mF_events ⟨_, rfl, r_set upd_same T.c_Outcome T.n_Outcome_length oF_len oF_put_length ⟨_, rfl, ?_⟩⟩⟩
        refine q _ oa od rv (same_at nO' (same_at nO' M5.same)) ?_ ?_
        · rw [upd_same, he, lenE]
          rfl
        · rw [raceE]
          exact hR5.up fun b xs h => by
            have nb := ne_of h hO5 (fun z => nomatch z)
            rw [upd_ne nb, upd_ne nb]
            exact h
      have he : endS (p.one k) (p.length k) = if (p.one n).threads.any (fun x => x.mode.isWaiting) then ("stuck" : PySem.Str) else "ended" := by
        rw [lenE, oneE]
        rfl
      cases hw : (p.one n).threads.any (fun x => x.mode.isWaiting) with
      | true =>
        rw [hw] at he
        exact ⟨_, rfl, if_t rfl (fin _ he)⟩
      | false =>
        rw [hw] at he
        exact ⟨_, rfl, if_f rfl (fin _ he)⟩
    | some t =>
      rw [first_pos hf]
      obtain ⟨m', x, hg, hx⟩ := first_go (p := p) hf
      refine if_f (decide_eq_false (by omega)) ?_
      refine ⟨_, rfl, _, rfl, _, _, rfl, H, S, L, p, _, n, t, x, rfl, rfl, M4.W, M4.bes hp fit, wf, hx, fun H5 s5 => ?_⟩
      have M5 := M4.up s5
      have hO5 := s5 _ _ hO4
      have hR5 := hR4.up fun b xs e => s5 _ _ e
      have rs := race_succ (p := p) (n := n)
      rw [hf] at rs
      simp only [guarded_lack] at rs
      have step : ∀ rv' H6, Mine K H pa p crs H6 S L (p.one n) n → H6 oa = some (.ins (cOut K) od (oF "open" .non rv')) → RaceV p H6 rv' (p.race (n + 1)) →
          tDrop (tCallS (spDoEvent K) (fun σ => E0) (tCons (tVar 2) (tCons (tVar 4) tNil))) { nx := fun σ H4 => ∃ S L rv o4 o5, Mine K H pa p crs H4 S L (p.one (n + 1)) (n + 1) ∧ Runs p (n + 1) ∧ (∀ q, S q oa = none) ∧ H4 oa = some (.ins (cOut K) od (oF "open" .non rv)) ∧ RaceV p H4 rv (p.race (n + 1)) ∧ σ = [some (.ref pa), some (natV k), some (.ref L.a), some (.ref oa), o4, o5], rt := Q }
            [some (.ref pa), some (natV k), some (.ref L.a), some (.ref oa), some (.int (t : Int)), some (.int (optI (lackOf p (p.one n) t)))] H6 := by
        intro rv' H6 M6 hO6 hR6
        refine ⟨_, rfl, _, rfl, _, _, rfl, H, S, L, p, _, n, t, m', rfl, rfl, M6.W, M6.bes hp fit, wf, by omega, hg, fun H7 G => ?_⟩
        obtain ⟨S7, M7, st⟩ := M6.go G
        rw [← one_succ hf hg] at M7
        exact ⟨S7, L, rv', _, _, M7, runs.succ hf, st.outside hO6 off, st.out _ _ hO6 off, hR6.up st.tups, rfl⟩
      refine ⟨_, rfl, r_fld hO5 T.c_Outcome T.n_Outcome_race oF_race ⟨rfl, _, rfl, ?_⟩⟩
      cases hr0 : p.race n with
      | some y =>
        rw [hr0] at hR5 rs
        obtain ⟨ra, rva, er, h2, h3⟩ := hR5
        subst er
        refine if_f rfl (if_f rfl (step _ H5 M5 hO5 ?_))
        rw [rs]
        exact ⟨ra, rva, rfl, h2, h3⟩
      | none =>
        rw [hr0] at hR5 rs
        have er : rv = .non := hR5
        subst er
        refine if_t rfl ⟨_, rfl, _, _, rfl, rfl, _, rfl, ?_⟩
        cases hl : lackOf p (p.one n) t with
        | none =>
          rw [hl] at rs
          refine if_f rfl ?_
          have := step .non H5 M5 hO5 (by rw [rs]; rfl)
          rw [hl] at this
          exact this
        | some v =>
          rw [hl] at rs
          refine if_t (decide_eq_true (by show (0 : Int) ≤ (v : Int); omega)) ?_
          obtain ⟨dM5, hM5⟩ := M5.W.mach
          refine ⟨_, rfl, r_fld hM5 T.c_Machine T.n_Machine_events mF_events ⟨_, rfl, _, rfl, lineOf (by show 3 ≤ 1000; decide), fun c nc => ?_⟩⟩
          have sc := same_new (o := .tup [natV n, .int (t : Int), .int (optI (some v))]) nc
          refine ⟨_, rfl, r_set (sc _ _ hO5) T.c_Outcome T.n_Outcome_race oF_len oF_put_race ?_⟩
          have := step (.ref c) _ ((M5.up sc).off nO' off (sc _ _ hO5) ins_tup (.ins (cOut K) od (oF "open" .non (.ref c)))) upd_same (by
            rw [rs]
            refine ⟨c, v, rfl, ?_, ?_⟩
            · rw [upd_ne (fun z => by rw [z, hO5] at nc; cases nc), upd_same]
              rfl
            · unfold lackOf at hl
              cases ha : p.access (p.one n) t with
              | none => rw [ha] at hl; cases hl
              | some v' =>
                rw [ha] at hl
                simp only at hl
                split at hl
                · cases hl
                · exact hl)
          rw [hl] at this
          exact this
  · have e : n = k := by omega
    subst e
    refine if_f (decide_eq_false (by omega)) ⟨_, rfl, ?_⟩
    have lenE : p.length n = none := length_none runs
    refine q H3 oa od rv M.same ?_ hR
    rw [lenE]
    exact hO
end
end CT


namespace CT
open PySem PySem.Spec PyProof.Rows L2
theorem counts_len {m : Mach} : m.counts.length = m.threads.length := by
  unfold R7285d.Spec.Machine.counts
  rw [List.length_map]
theorem counts_get {m : Mach} {t : Nat} {x : Thr} (h : m.threads[t]? = some x) : m.counts[t]? = some x.count := by
  unfold R7285d.Spec.Machine.counts
  rw [List.getElem?_map, h]
  rfl
theorem find_stop {α : Type} (q : α → Bool) : ∀ (l : List α) (i : Nat) (a : α), l[i]? = some a → q a = true → (∀ j b, j < i → l[j]? = some b → q b = false) → l.find? q = some a
  | [], i, a, h, _, _ => by simp at h
  | x :: l, 0, a, h, ha, _ => by
    simp at h
    subst h
    simp [List.find?, ha]
  | x :: l, i + 1, a, h, ha, k => by
    have hx : q x = false := k 0 x (Nat.zero_lt_succ _) rfl
    simp only [List.find?, hx]
    exact find_stop q l i a (by simpa using h) ha fun j b hj hb => k (j + 1) b (by omega) (by simpa using hb)
section
variable {P : Program} {w : World} {K : PySem.W.Frag} {mg : PySem.Str → Option Value} {base : Heap}
def spNextFor (K : PySem.W.Frag) : Sp := sp2 fun u v H Q _ => ∃ F S L p m n c goal, u = .ref L.a ∧ v = .ref c ∧ MW K H S L p m n ∧ Bes K F H S L p ∧ Wf p m n ∧ H c = some (.lst (goal.counts.map natV)) ∧ goal.threads.length = m.threads.length ∧
  ∀ H', Same H H' → Q (.int (optI (p.nextTo goal m))) H'
abbrev n_next_for : List PySem.Str := ["machine", "counts", "number"]
theorem sc_next_for : FnScope n_next_for ["machine", "counts"] d_next_for.scope := ⟨rfl, rfl, rfl, by decide +kernel, rfl, by decide +kernel, by decide +kernel⟩
theorem c_next_for (T : Tx w K mg) : Cal (CX0) P w K mg base 5 "next_for" (spNextFor K) := by
  refine cal_mk T.fd_next_for T.g_next_for sc_next_for (fun _ _ _ _ _ _ us hl => match us, hl with | [_, _], _ => rfl) (fun _ _ _ _ h => sp2_len h) (fun f cdv A outer s H vs Q E hr h => ?_)
  obtain ⟨_, _, rfl, F, S, L, p, m, n, c, goal, rfl, rfl, W, B, wf, hc, lg, q⟩ := h
  refine ⟨_, PSs.nox ((pss_cons (ps_for PassesOwn.never rfl (pi_list (pe_cal (c_choices_of T) hr (by decide) rfl passC (pa_cons (pv 0) pa_nil))) (pg_name (i := 2) sc_next_for.nd rfl (Or.inl rfl)) (pss_one (ps_if (pt_cmpR op_lt (pe_fld (pe_ix ix_list (pe_fld (pv 0) rfl) (pv 2) (fun _ _ => rfl)) rfl) (pe_ix ix_list (pv 1) (pv 2) (fun _ _ => rfl)) (nomark _)) (pss_one (ps_ret (pv 2))) pss_nil)))
      (pss_one (ps_ret (pe_un un_neg pe_int))))), ?_⟩
  refine ⟨_, rfl, _, rfl, F, S, L, p, m, n, rfl, W, B, wf, fun H1 C s1 nC hC => ?_⟩
  refine ⟨C, rfl, ⟨_, SqL.of hC⟩, for_list (fun i σ H2 => Same H1 H2 ∧ (∀ j u, j < i → (p.choices m)[j]? = some u → decide (m.counts.getD u 0 < goal.counts.getD u 0) = false) ∧ ∃ o2, σ = [some (.ref L.a), some (.ref c), o2]) ⟨Same.refl _, fun j u h => by omega, _, rfl⟩ (fun i σ H2 _ h => SqL.of (h.1 _ _ hC)) ?_ ?_⟩
  · rintro i v σ H2 hv ⟨s2, no, o2, rfl⟩
    obtain ⟨t, ht, rfl⟩ : ∃ t, (p.choices m)[i]? = some t ∧ v = natV t := by
      rw [List.getElem?_map] at hv
      cases e : (p.choices m)[i]? with
      | none => rw [e] at hv; cases hv
      | some t => rw [e] at hv; exact ⟨t, rfl, (Option.some.inj hv).symm⟩
    obtain ⟨x, hx⟩ := choice_ok ht
    have sA := s1.trans s2
    have W2 := W.same sA
    obtain ⟨dM, hM⟩ := W2.mach
    obtain ⟨a, cr, d, dx, rg, pr, e1, e2, e3, TS, TH⟩ := W2.thread hx
    have ht2 : t < goal.counts.length := by
      rw [counts_len, lg]
      exact (List.getElem?_eq_some_iff.mp hx).1
    obtain ⟨g, hg⟩ := get_lt ht2
    have dec : decide ((x.count : Int) < (g : Int)) = decide (m.counts.getD t 0 < goal.counts.getD t 0) := by
      rw [getD_some (counts_get hx), getD_some hg]
      exact decide_eq_decide.mpr ⟨fun h => by omega, fun h => by omega⟩
    refine ⟨_, rfl, r_fld hM T.c_Machine T.n_Machine_threads mF_threads ⟨_, rfl, r_at (SqL.of W2.tl) (mapRef e1) (r_fld TH.ins T.c_Thread T.n_Thread_events tF_events ⟨_, rfl, _, rfl, r_at (SqL.of (sA _ _ hc)) (mapNat hg) ⟨_, _, rfl, rfl, _, rfl, ?_⟩⟩)⟩⟩
    show if decide ((x.count : Int) < (g : Int)) = true then _ else _
    rw [dec]
    cases hd : decide (m.counts.getD t 0 < goal.counts.getD t 0) with
    | true =>
      refine if_t rfl ⟨_, rfl, ?_⟩
      have := q H2 sA
      have en : p.nextTo goal m = some t := find_stop _ _ i t ht hd no
      rw [en] at this
      exact this
    | false =>
      refine if_f rfl ⟨s2, fun j u hj hu => ?_, _, rfl⟩
      rcases Nat.lt_succ_iff_lt_or_eq.mp hj with h | h
      · exact no j u h hu
      · subst h
        rw [ht] at hu
        cases hu
        exact hd
  · rintro σ H2 ⟨s2, no, o2, rfl⟩
    refine ⟨_, rfl, ?_⟩
    have := q H2 (s1.trans s2)
    have en : p.nextTo goal m = none := by
      unfold R7285d.Spec.Program.nextTo
      rw [List.find?_eq_none]
      intro u hu
      obtain ⟨j, hj⟩ := List.mem_iff_getElem?.mp hu
      have lj := (List.getElem?_eq_some_iff.mp hj).1
      have := no j u (by rw [List.length_map]; exact lj) hj
      simp only [this]
      exact Bool.false_ne_true
    rw [en] at this
    exact this
def spRejoin (K : PySem.W.Frag) : Sp := sp2 fun u v H Q _ => ∃ F S L p m n c goal, u = .ref L.a ∧ v = .ref c ∧ MW K H S L p m n ∧ Bes K F H S L p ∧ Wf p m n ∧ H c = some (.lst (goal.counts.map natV)) ∧ (∀ q, S q c = none) ∧ goal.threads.length = m.threads.length ∧ n + goal.counts.sum < 1000000 ∧
  ∀ H', Goes K L p H S H' (p.follow goal goal.counts.sum m).2 (n + (p.follow goal goal.counts.sum m).1.length) → Q (natV (p.follow goal goal.counts.sum m).1.length) H'
abbrev n_rejoin : List PySem.Str := ["machine", "counts", "done", "number"]
theorem sc_rejoin : FnScope n_rejoin ["machine", "counts"] d_rejoin.scope := ⟨rfl, rfl, rfl, by decide +kernel, rfl, by decide +kernel, by decide +kernel⟩
theorem c_rejoin (T : Tx w K mg) : Cal (CX0) P w K mg base 6 "rejoin" (spRejoin K) := by
  refine cal_mk T.fd_rejoin T.g_rejoin sc_rejoin (fun _ _ _ _ _ _ us hl => match us, hl with | [_, _], _ => rfl) (fun _ _ _ _ h => sp2_len h) (fun f cdv A outer s H vs Q E hr h => ?_)
  obtain ⟨_, _, rfl, F, S, L, p, m, n, c, goal, rfl, rfl, W, B, wf, hc, off, lg, small, q⟩ := h
  refine ⟨_, PSs.nox ((pss_cons (ps_set (i := 2) sc_rejoin.nd rfl (Or.inl rfl) pe_int)
      (pss_cons (ps_set (i := 3) sc_rejoin.nd rfl (Or.inl rfl) (pe_cal (c_next_for T) hr (by decide) rfl passC (pa_cons (pv 0) (pa_cons (pv 1) pa_nil))))
      (pss_cons (ps_while PassesOwn.never (pt_cmpR op_ge (pv 3) pe_int (nomark _)) (pss_cons (ps_expr (pe_cal (c_do_event T) hr (by decide) rfl passC (pa_cons (pv 0) (pa_cons (pv 3) pa_nil))))
      (pss_cons (ps_aug (i := 2) sc_rejoin.nd rfl (Or.inl rfl) pe_int ip_add)
      (pss_one (ps_set (i := 3) sc_rejoin.nd rfl (Or.inl rfl) (pe_cal (c_next_for T) hr (by decide) rfl passC (pa_cons (pv 0) (pa_cons (pv 1) pa_nil))))))))
      (pss_one (ps_ret (pv 2))))))), ?_⟩
  refine ⟨_, rfl, _, rfl, _, _, rfl, F, S, L, p, m, n, c, goal, rfl, rfl, W, B, wf, hc, lg, fun H1 s1 => ?_⟩
  refine ⟨fun r σ H2 => ∃ k m1 S1, r = gap goal.counts m1.counts ∧ k + gap goal.counts m1.counts ≤ goal.counts.sum ∧ Following p goal m goal.counts.sum m1 k ∧ Wf p m1 (n + k) ∧ MW K H2 S1 L p m1 (n + k) ∧ Bes K F H2 S1 L p ∧ Stp H S H2 S1 ∧ H2 c = some (.lst (goal.counts.map natV)) ∧ (∀ q, S1 q c = none) ∧
      σ = [some (.ref L.a), some (.ref c), some (natV k), some (.int (optI (p.nextTo goal m1)))],
    ⟨_, 0, m, S, rfl, by rw [Nat.zero_add]; exact gap_le _ _, Following.start (Nat.le_refl _), wf, W.same s1, B.same s1, Stp.same s1, s1 _ _ hc, off, rfl⟩, ?_⟩
  rintro r σ H2 ⟨k, m1, S1, rfl, lk, fol, wf1, W1, B1, st1, hc1, off1, rfl⟩
  refine ⟨_, rfl, _, _, rfl, rfl, _, rfl, ?_⟩
  cases hn : p.nextTo goal m1 with
  | none =>
    obtain ⟨e1, e2⟩ := fol.over hn
    refine if_f rfl ⟨_, rfl, ?_⟩
    rw [e1, e2] at q
    exact q H2 ⟨S1, W1, st1⟩
  | some t =>
    obtain ⟨m', x, hg, hx, hlt⟩ := next_some hn
    have fol' := fol.go hn hg
    have wf' := wf1.go B1.fit hg
    have gs : gap goal.counts m'.counts + 1 = gap goal.counts m1.counts := by
      rw [counts_go hx hg]
      exact gap_step _ _ _ _ (counts_get hx) hlt
    refine if_t (decide_eq_true (by show (0 : Int) ≤ (t : Int); omega)) ?_
    refine ⟨fun σ' H' => ∃ S1, Wf p m' (n + (k + 1)) ∧ MW K H' S1 L p m' (n + (k + 1)) ∧ Bes K F H' S1 L p ∧ Stp H S H' S1 ∧ H' c = some (.lst (goal.counts.map natV)) ∧ (∀ q, S1 q c = none) ∧ σ' = [some (.ref L.a), some (.ref c), some (natV (k + 1)), some (.int (optI (p.nextTo goal m')))], ?_, ?_⟩
    · rintro σ' H' ⟨S', a1, a2, a3, a4, a5, a6, a7⟩
      exact ⟨gap goal.counts m'.counts, by omega, k + 1, m', S', rfl, by omega, fol', a1, a2, a3, a4, a5, a6, a7⟩
    refine ⟨_, rfl, _, rfl, _, _, rfl, F, S1, L, p, m1, n + k, t, m', rfl, rfl, W1, B1, wf1, by omega, hg, fun H3 ⟨S3, W3, st3⟩ => ?_⟩
    refine ⟨_, rfl, _, _, rfl, rfl, ?_⟩
    have hc3 := st3.out _ _ hc1 off1
    have off3 := st3.outside hc1 off1
    have lg3 : goal.threads.length = m'.threads.length := by
      rw [wf'.threads, ← wf.threads]
      exact lg
    refine ⟨_, rfl, _, rfl, _, _, rfl, F, S3, L, p, m', n + (k + 1), c, goal, rfl, rfl, W3, B1.stp st3, wf', hc3, lg3, fun H4 s4 => ?_⟩
    exact ⟨S3, wf', W3.same s4, (B1.stp st3).same s4, (st1.trans st3).trans (Stp.same s4), s4 _ _ hc3, off3, rfl⟩
end
end CT


namespace CT
open PySem PySem.Spec PyProof.Rows L2
section
variable {P : Program} {w : World} {K : PySem.W.Frag} {mg : PySem.Str → Option Value} {base : Heap}
def MeetV (p : Prog) (H H' : Hp) (v : V) : Option Nat → Prop
  | none => v = .non
  | some j => ∃ c, v = .ref c ∧ H c = none ∧ H' c = some (.lst ((p.one j).counts.map natV)) ∧ j ≤ 5000
def spPlaceFor (K : PySem.W.Frag) : Sp := sp1 fun u H Q _ => ∃ F S L p m n, u = .ref L.a ∧ MW K H S L p m n ∧ Bes K F H S L p ∧ Wf p m n ∧ ∀ H' v, Same H H' → MeetV p H H' v (p.meets m) → Q v H'
abbrev n_place_for : List PySem.Str := ["machine", "counts", "one", "number", "thread"]
theorem sc_place_for : FnScope n_place_for ["machine"] d_place_for.scope := ⟨rfl, rfl, rfl, by decide +kernel, rfl, by decide +kernel, by decide +kernel⟩
theorem c_place_for (T : Tx w K mg) : Cal (CX0) P w K mg base 6 "place_for" (spPlaceFor K) := by
  refine cal_mk T.fd_place_for T.g_place_for sc_place_for (fun _ _ _ _ _ _ us hl => match us, hl with | [_], _ => rfl) (fun _ _ _ _ h => sp1_len h) (fun f cdv A outer s H vs Q E hr h => ?_)
  obtain ⟨_, rfl, F, S, L, p, m, n, rfl, W, B, wf, q⟩ := h
  refine ⟨_, PSs.nox ((pss_cons (ps_setLc (i := 1) (own := [("thread", 4)]) rfl sc_place_for.nd rfl rfl (sw_true rfl rfl rfl (by decide +kernel)) (pi_list (pe_fld (pv 0) rfl)) (blkOk_by (N := n_place_for) (sc := d_place_for.scope) (by decide +kernel)) (fun _ _ _ _ _ => (pg_name (i := 4) sc_place_for.nd rfl (Or.inl rfl))) (fun _ _ _ _ _ => pts_nil) (fun _ _ _ _ _ => (pe_fldK (K := K) rfl (pv 4) rfl)))
      (pss_cons (ps_set (i := 2) sc_place_for.nd rfl (Or.inl rfl) (pe_new (new_Machine T) hr (by decide) rfl (pa_cons (pe_fld (pv 0) rfl) pa_nil)))
      (pss_cons (ps_while PassesOwn.never (pt_val (pe_cal (c_is_behind T) hr (by decide) rfl passC (pa_cons (pv 2) (pa_cons (pv 1) pa_nil)))) (pss_cons (ps_set (i := 3) sc_place_for.nd rfl (Or.inl rfl) (pe_cal (c_least_of T) hr (by decide) rfl passC (pa_cons (pv 2) pa_nil)))
      (pss_cons (ps_if (PW.pt (pw_or (pt_cmpR op_lt (pv 3) pe_int (nomark _)) (pw_or1 (pt_cmpR op_eq (pe_fld (pv 2) rfl) (pe_gi T.i_MOST_EVENTS rfl) (nomark _))))) (pss_one (ps_ret pe_non)) pss_nil)
      (pss_one (ps_expr (pe_cal (c_do_event T) hr (by decide) rfl passC (pa_cons (pv 2) (pa_cons (pv 3) pa_nil))))))))
      (pss_one (ps_ret (pe_lc (own := [("thread", 4)]) rfl sc_place_for.nd (pi_list (pe_fld (pv 2) rfl)) (blkOk_by (N := n_place_for) (sc := d_place_for.scope) (by decide +kernel)) (fun _ _ _ _ _ => (pg_name (i := 4) sc_place_for.nd rfl (Or.inl rfl))) (fun _ _ _ _ _ => pts_nil) (fun _ _ _ _ _ => (pe_fldK (K := K) rfl (pv 4) rfl))))))))), ?_⟩
  have fit := B.fit
  have ft := fit.threads
  have wt := wf.threads
  obtain ⟨dM, hM⟩ := W.mach
  have tlen := W.at_.tlen
  refine ⟨_, rfl, r_fld hM T.c_Machine T.n_Machine_threads mF_threads ⟨L.tl, rfl, ⟨_, SqL.of W.tl⟩, fun C nC => ?_⟩⟩
  refine lc_list (fun i H1 => Same H H1 ∧ H1 C = some (.lst ((m.counts.take i).map natV))) ⟨same_new nC, upd_same⟩ (fun i H1 _ h => SqL.of (h.1 _ _ W.tl)) ?_ ?_
  · rintro i v H1 hv ⟨s1, hC⟩
    have hi : i < m.threads.length := by
      have := (List.getElem?_eq_some_iff.mp hv).1
      rw [List.length_map] at this
      omega
    obtain ⟨x, hx⟩ := get_lt hi
    obtain ⟨b, cr, d, dx, rg, pr, g1, g2, g3, TS, TH⟩ := W.thread hx
    rw [mapRef g1] at hv
    cases hv
    refine ⟨rfl, _, rfl, r_fld (s1 _ _ TH.ins) T.c_Thread T.n_Thread_events tF_events ⟨_, hC, ?_, ?_⟩⟩
    · rw [List.length_map, List.length_take]
      exact small1000 (by omega)
    · refine ⟨same_at nC s1, ?_⟩
      rw [upd_same, take_succ_get (counts_get hx), List.map_append]
      rfl
  rintro H1 ⟨s1, hC⟩
  rw [List.length_map, tlen, ← counts_len, take_len] at hC
  have W1 := W.same s1
  have B1 := B.same s1
  obtain ⟨dM1, hM1⟩ := W1.mach
  have hp1 : PAt K H1 L.pa p L.crs := B1.prog.up B1.in_
  refine ⟨_, rfl, r_fld hM1 T.c_Machine T.n_Machine_program mF_program ⟨_, rfl, L.pa, p, L.crs, rfl, hp1, fit, fun H2 S2 L2 e1 e2 s2 n2 W2 => ?_⟩⟩
  refine ⟨fun r σ H3 => ∃ j S3 L3 o3, j ≤ 5000 ∧ r = 5000 - j ∧ Runs p j ∧ (∀ i, i < j → R7285d.Spec.behind m (p.one i) = false) ∧ Mine K H1 L.pa p L.crs H3 S3 L3 (p.one j) j ∧ σ = [some (.ref L.a), some (.ref C), some (.ref L3.a), o3, none],
    ⟨5000, 0, S2, L2, _, Nat.zero_le _, rfl, Runs.zero, fun i h => by omega, ⟨W2, e1, e2, s2, n2⟩, rfl⟩, ?_⟩
  rintro r σ H3 ⟨j, S3, L3, o3, hj, rfl, runs, nb, M, rfl⟩
  have wfj := wf_one fit runs
  have tj : (p.one j).threads.length = m.threads.length := by rw [wfj.threads, wt]
  have bz := behind_zip (a := m) (b := p.one j) tj.symm
  refine ⟨_, rfl, _, rfl, _, _, rfl, S3, L3, p, p.one j, j, C, m.counts, rfl, rfl, M.W, by omega, M.same _ _ hC, by rw [counts_len, tj], fun H4 s4 => ?_⟩
  have M4 := M.up s4
  refine ⟨_, rfl, ?_⟩
  cases hb : (List.zipWith (fun (y : Nat) (c : Nat) => decide (y < c)) (p.one j).counts m.counts).any id with
  | false =>
    rw [hb] at bz
    refine if_f rfl ?_
    have em := meets_some (p := p) (m := m) bz nb hj
    obtain ⟨dM4, hM4⟩ := M4.W.mach
    have tlen4 := M4.W.at_.tlen
    refine ⟨_, rfl, r_fld hM4 T.c_Machine T.n_Machine_threads mF_threads ⟨L3.tl, rfl, ⟨_, SqL.of M4.W.tl⟩, fun D nD => ?_⟩⟩
    refine lc_list (fun i H5 => Same H4 H5 ∧ H5 D = some (.lst (((p.one j).counts.take i).map natV))) ⟨same_new nD, upd_same⟩ (fun i H5 _ h => SqL.of (h.1 _ _ M4.W.tl)) ?_ ?_
    · rintro i v H5 hv ⟨s5, hD⟩
      have hi : i < (p.one j).threads.length := by
        have := (List.getElem?_eq_some_iff.mp hv).1
        rw [List.length_map] at this
        omega
      obtain ⟨x, hx⟩ := get_lt hi
      obtain ⟨b, cr, d, dx, rg, pr, g1, g2, g3, TS, TH⟩ := M4.W.thread hx
      rw [mapRef g1] at hv
      cases hv
      refine ⟨rfl, _, rfl, r_fld (s5 _ _ TH.ins) T.c_Thread T.n_Thread_events tF_events ⟨_, hD, ?_, ?_⟩⟩
      · rw [List.length_map, List.length_take]
        exact small1000 (by omega)
      · refine ⟨same_at nD s5, ?_⟩
        rw [upd_same, take_succ_get (counts_get hx), List.map_append]
        rfl
    rintro H5 ⟨s5, hD⟩
    rw [List.length_map, tlen4, ← counts_len, take_len] at hD
    refine q H5 _ (s1.trans (M4.same.trans s5)) ?_
    rw [em]
    exact ⟨D, rfl, s1.free (M4.same.free nD), hD, hj⟩
  | true =>
    rw [hb] at bz
    have nb' : ∀ i, i ≤ j → R7285d.Spec.behind m (p.one i) = false := fun i hi => by
      rcases Nat.lt_or_eq_of_le hi with h | h
      · exact nb i h
      · rw [h]
        exact bz
    refine if_t rfl ?_
    refine ⟨fun σ H5 => ∃ S L3 o3, j + 1 ≤ 5000 ∧ Runs p (j + 1) ∧ (∀ i, i < j + 1 → R7285d.Spec.behind m (p.one i) = false) ∧ Mine K H1 L.pa p L.crs H5 S L3 (p.one (j + 1)) (j + 1) ∧ σ = [some (.ref L.a), some (.ref C), some (.ref L3.a), o3, none], ?_, ?_⟩
    · rintro σ' H5 ⟨S', L', o', h1, h2, h3, h4, h5⟩
      exact ⟨5000 - (j + 1), by omega, j + 1, S', L', o', h1, rfl, h2, h3, h4, h5⟩
    refine ⟨_, rfl, _, rfl, S3, L3, p, p.one j, j, rfl, M4.W, by omega, fun H5 s5 => ?_⟩
    have M5 := M4.up s5
    refine ⟨_, rfl, _, _, rfl, rfl, _, rfl, ?_⟩
    cases hf : (p.one j).first with
    | none =>
      rw [first_neg hf]
      refine if_t rfl (if_t rfl ?_)
      refine q H5 _ (s1.trans M5.same) ?_
      rw [meets_over nb' hf]
      rfl
    | some t =>
      rw [first_pos hf]
      obtain ⟨m', x, hg, hx⟩ := first_go (p := p) hf
      refine if_f (decide_eq_false (by omega)) ?_
      obtain ⟨dM5, hM5⟩ := M5.W.mach
      refine ⟨_, rfl, r_fld hM5 T.c_Machine T.n_Machine_events mF_events ⟨rfl, _, rfl, ?_⟩⟩
      by_cases c : j = 5000
      · subst c
        refine if_t (by decide) ?_
        refine q H5 _ (s1.trans M5.same) ?_
        rw [meets_top nb']
        rfl
      · refine if_f (decide_eq_false (fun z => c (by have := V.int.inj z; omega))) ?_
        refine ⟨_, rfl, _, rfl, _, _, rfl, H1, S3, L3, p, p.one j, j, t, m', rfl, rfl, M5.W, M5.bes hp1 fit, wfj, by omega, hg, fun H6 G => ?_⟩
        obtain ⟨S6, M6, st⟩ := M5.go G
        rw [← one_succ hf hg] at M6
        exact ⟨S6, L3, _, by omega, runs.succ hf, fun i hi => nb' i (by omega), M6, rfl⟩
end
end CT


namespace CT
open PySem PySem.Spec PyProof.Rows L2
/-! ### values in the heap -/
def octV (u : List UInt8) : List V := u.map fun o => natV o.toNat
/-- what is in H and not in B -/
def off (B H : Hp) : Hp := fun b => match B b with
  | none => H b
  | some _ => none
theorem off_none {B H : Hp} {b : Addr} (h : B b = none) : off B H b = H b := by
  unfold off
  rw [h]
theorem off_new {B H H' : Hp} {b : Addr} {o : HO} (s : Same B H) (n : H b = none) (e : H' b = some o) : off B H' b = some o := by
  rw [off_none (s.free n)]
  exact e
theorem off_same {B H H' : Hp} (s : Same H H') : Same (off B H) (off B H') := fun b o h => by
  unfold off at h ⊢
  cases hb : B b with
  | none =>
    rw [hb] at h
    simp only at h ⊢
    exact s b o h
  | some x =>
    rw [hb] at h
    cases h
theorem off_in {B H : Hp} : Same (off B H) H := fun b o h => by
  unfold off at h
  cases hb : B b with
  | none =>
    rw [hb] at h
    exact h
  | some x =>
    rw [hb] at h
    cases h
def VIs (K : PySem.W.Frag) (F : Hp) (x : V) (k : Int) (h : V) : Prop := ∃ a dx, x = .ref a ∧ F a = some (.ins (cVal K) dx (vF k h))
theorem VIs.up {K : PySem.W.Frag} {F F' : Hp} {x h : V} {k : Int} (v : VIs K F x k h) (s : Same F F') : VIs K F' x k h := by
  obtain ⟨a, dx, e1, e2⟩ := v
  exact ⟨a, dx, e1, s _ _ e2⟩
mutual
def VAt (K : PySem.W.Frag) (F : Hp) : RWire.Value → V → Prop
  | .nothing, x => VIs K F x 0 (.int 0)
  | .null, x => VIs K F x 1 (.int 0)
  | .bool b, x => VIs K F x (if b then 3 else 2) (.int 0)
  | .int i, x => VIs K F x 4 (.int i)
  | .big _, _ => False
  | .text u, x => ∃ t, VIs K F x 6 (.ref t) ∧ F t = some (.tup (octV u))
  | .octets _, _ => False
  | .wide _, _ => False
  | .list l, x => ∃ p xs, VIs K F x 7 (.ref p) ∧ F p = some (.lst xs) ∧ VMany K F l xs
  | .record l, x => ∃ p xs, VIs K F x 8 (.ref p) ∧ F p = some (.lst xs) ∧ VEnts K F l xs
def VMany (K : PySem.W.Frag) (F : Hp) : List RWire.Value → List V → Prop
  | [], xs => xs = []
  | v :: r, xs => ∃ x ys, xs = x :: ys ∧ VAt K F v x ∧ VMany K F r ys
def VEnts (K : PySem.W.Frag) (F : Hp) : List (RWire.Text × RWire.Value) → List V → Prop
  | [], xs => xs = []
  | e :: r, xs => ∃ t n y ys, xs = .ref t :: ys ∧ F t = some (.tup [.ref n, y]) ∧ F n = some (.tup (octV e.1)) ∧ VAt K F e.2 y ∧ VEnts K F r ys
end
mutual
theorem VAt.up {K : PySem.W.Frag} {F F' : Hp} (s : Same F F') : ∀ (v : RWire.Value) (x : V), VAt K F v x → VAt K F' v x
  | .nothing, x, h => VIs.up h s
  | .null, x, h => VIs.up h s
  | .bool b, x, h => VIs.up h s
  | .int i, x, h => VIs.up h s
  | .big _, _, h => h.elim
  | .text u, x, ⟨t, h1, h2⟩ => ⟨t, h1.up s, s _ _ h2⟩
  | .octets _, _, h => h.elim
  | .wide _, _, h => h.elim
  | .list l, x, ⟨p, xs, h1, h2, h3⟩ => ⟨p, xs, h1.up s, s _ _ h2, VMany.up s l xs h3⟩
  | .record l, x, ⟨p, xs, h1, h2, h3⟩ => ⟨p, xs, h1.up s, s _ _ h2, VEnts.up s l xs h3⟩
theorem VMany.up {K : PySem.W.Frag} {F F' : Hp} (s : Same F F') : ∀ (l : List RWire.Value) (xs : List V), VMany K F l xs → VMany K F' l xs
  | [], xs, h => h
  | v :: r, xs, ⟨x, ys, e, h1, h2⟩ => ⟨x, ys, e, VAt.up s v x h1, VMany.up s r ys h2⟩
theorem VEnts.up {K : PySem.W.Frag} {F F' : Hp} (s : Same F F') : ∀ (l : List (RWire.Text × RWire.Value)) (xs : List V), VEnts K F l xs → VEnts K F' l xs
  | [], xs, h => h
  | e :: r, xs, ⟨t, n, y, ys, e1, h1, h2, h3, h4⟩ => ⟨t, n, y, ys, e1, s _ _ h1, s _ _ h2, VAt.up s e.2 y h3, VEnts.up s r ys h4⟩
end
theorem VMany.len {K : PySem.W.Frag} {F : Hp} : ∀ {l : List RWire.Value} {xs : List V}, VMany K F l xs → xs.length = l.length
  | [], xs, h => by
    have h : xs = [] := h
    rw [h]
    rfl
  | v :: r, xs, ⟨x, ys, e, h1, h2⟩ => by
    rw [e, List.length_cons, List.length_cons, VMany.len h2]
theorem VEnts.len {K : PySem.W.Frag} {F : Hp} : ∀ {l : List (RWire.Text × RWire.Value)} {xs : List V}, VEnts K F l xs → xs.length = l.length
  | [], xs, h => by
    have h : xs = [] := h
    rw [h]
    rfl
  | e :: r, xs, ⟨t, n, y, ys, e1, h1, h2, h3, h4⟩ => by
    rw [e1, List.length_cons, List.length_cons, VEnts.len h4]
theorem VMany.snoc {K : PySem.W.Frag} {F : Hp} {v : RWire.Value} {x : V} (h : VAt K F v x) : ∀ {l : List RWire.Value} {xs : List V}, VMany K F l xs → VMany K F (l ++ [v]) (xs ++ [x])
  | [], xs, k => by
    have k : xs = [] := k
    subst k
    exact ⟨x, [], rfl, h, rfl⟩
  | u :: r, xs, ⟨y, ys, e, h1, h2⟩ => by
    subst e
    exact ⟨y, ys ++ [x], rfl, h1, VMany.snoc h h2⟩
theorem VEnts.snoc {K : PySem.W.Frag} {F : Hp} {e : RWire.Text × RWire.Value} {t n : Addr} {y : V} (h1 : F t = some (.tup [.ref n, y])) (h2 : F n = some (.tup (octV e.1))) (h3 : VAt K F e.2 y) : ∀ {l : List (RWire.Text × RWire.Value)} {xs : List V}, VEnts K F l xs → VEnts K F (l ++ [e]) (xs ++ [.ref t])
  | [], xs, k => by
    have k : xs = [] := k
    subst k
    exact ⟨t, n, y, [], rfl, h1, h2, h3, rfl⟩
  | u :: r, xs, ⟨t', n', y', ys, e', k1, k2, k3, k4⟩ => by
    subst e'
    exact ⟨t', n', y', ys ++ [.ref t], rfl, k1, k2, k3, VEnts.snoc h1 h2 h3 k4⟩
theorem VMany.get {K : PySem.W.Frag} {F : Hp} : ∀ {l : List RWire.Value} {xs : List V} {i : Nat} {x : V}, VMany K F l xs → xs[i]? = some x → ∃ v, l[i]? = some v ∧ VAt K F v x
  | [], xs, i, x, k, e => by
    have k : xs = [] := k
    subst k
    simp at e
  | v :: r, xs, 0, x, ⟨y, ys, e', h1, h2⟩, e => by
    subst e'
    simp at e
    subst e
    exact ⟨v, rfl, h1⟩
  | v :: r, xs, i + 1, x, ⟨y, ys, e', h1, h2⟩, e => by
    subst e'
    obtain ⟨u, g1, g2⟩ := VMany.get (i := i) h2 (by simpa using e)
    exact ⟨u, by simpa using g1, g2⟩
theorem VEnts.get {K : PySem.W.Frag} {F : Hp} : ∀ {l : List (RWire.Text × RWire.Value)} {xs : List V} {i : Nat} {x : V}, VEnts K F l xs → xs[i]? = some x → ∃ e t n y, l[i]? = some e ∧ x = .ref t ∧ F t = some (.tup [.ref n, y]) ∧ F n = some (.tup (octV e.1)) ∧ VAt K F e.2 y
  | [], xs, i, x, k, e => by
    have k : xs = [] := k
    subst k
    simp at e
  | v :: r, xs, 0, x, ⟨t, n, y, ys, e', h1, h2, h3, h4⟩, e => by
    subst e'
    simp at e
    subst e
    exact ⟨v, t, n, y, rfl, rfl, h1, h2, h3⟩
  | v :: r, xs, i + 1, x, ⟨t, n, y, ys, e', h1, h2, h3, h4⟩, e => by
    subst e'
    obtain ⟨u, t', n', y', g1, g2, g3, g4, g5⟩ := VEnts.get (i := i) h4 (by simpa using e)
    exact ⟨u, t', n', y', by simpa using g1, g2, g3, g4, g5⟩
/-- a text of the program as octets -/
def txt (z : PySem.Str) : RWire.Text := z.cps.toList.map UInt8.ofNat
def byteS (z : PySem.Str) : Prop := ∀ c ∈ z.cps.toList, c < 256
theorem octV_txt {z : PySem.Str} (h : byteS z) : octV (txt z) = z.cps.toList.map natV := by
  unfold octV txt
  rw [List.map_map]
  refine List.map_congr_left fun c hc => ?_
  have := h c hc
  show natV (UInt8.ofNat c).toNat = natV c
  have e : (UInt8.ofNat c).toNat = c := by
    rw [UInt8.toNat_ofNat']
    exact Nat.mod_eq_of_lt (by omega)
  rw [e]
end CT

namespace CT
open PySem PySem.Spec PyProof.Rows L2
theorem vF_len {k : Int} {h : V} : (vF k h).length < 1000 := by show 2 < 1000; decide
section
variable {P : Program} {w : World} {K : PySem.W.Frag} {mg : PySem.Str → Option Value} {base : Heap}
def spValue (K : PySem.W.Frag) : Sp := sp2 fun x y H Q _ => ∃ k : Int, x = .int k ∧ ∀ H' a dx, Same H H' → H a = none → H' a = some (.ins (cVal K) dx (vF k y)) → Q (.ref a) H'
def siValue (K : PySem.W.Frag) : Sp := sp3 fun s x y H Q _ => ∃ a dx, ∃ k : Int, s = .ref a ∧ x = .int k ∧ H a = some (.ins (cVal K) dx []) ∧ ∀ H', (∀ b, b ≠ a → H' b = H b) → H' a = some (.ins (cVal K) dx (vF k y)) → Q .non H'
abbrev n_init_Value : List PySem.Str := ["self", "kind", "held"]
theorem sc_init_Value : FnScope n_init_Value ["self", "kind", "held"] d_init_Value.scope := ⟨rfl, rfl, rfl, by decide +kernel, rfl, by decide +kernel, by decide +kernel⟩
theorem new_Value (T : Tx w K mg) : New P w K mg base 1 "Value" (spValue K) := by
  refine new_mk (si := siValue K) T.fd_init_Value T.m_Value T.g_Value sc_init_Value (fun _ _ _ _ _ _ us hl => match us, hl with | [_, _, _], _ => rfl) (fun _ _ _ _ h => sp3_len h) ?hs (fun f cdv A outer s H vs Q E hr h => ?_)
  rotate_left
  obtain ⟨_, _, h, rfl, a, dx, k, rfl, rfl, hA, q⟩ := h
  refine ⟨_, (pss_cons (ps_fld (pv 0) (pv 1) rfl)
      (pss_one (ps_fld (pv 0) (pv 2) rfl))), ?_⟩
  refine ⟨_, rfl, _, rfl, r_put 0 hA (Nat.le_refl _) (by decide) T.c_Value T.n_Value_kind fun H1 h1 l1 k1 => ?_⟩
  refine ⟨_, rfl, _, rfl, r_put 1 h1 l1 (by decide) T.c_Value T.n_Value_held fun H2 h2 l2 k2 => ?_⟩
  refine q H2 (fun b hb => by rw [k2 b hb, k1 b hb]) (h2.trans (congrArg (fun z => some (HO.ins (cVal K) dx z)) (by kernel_rfl)))
  · rintro vs H Q ⟨_, y, rfl, k, rfl, q⟩ a dx na nd ne
    refine ⟨_, _, _, rfl, a, dx, k, rfl, rfl, upd_same, fun H' kp h1 => ⟨rfl, ?_⟩⟩
    exact q H' a dx (made_same na nd fun b o h hb => (kp b hb).trans h) na h1
/-- a value that is made, told for all that stood before -/
def spMk (K : PySem.W.Frag) (H : Hp) (v : RWire.Value) (Q : VK) : Prop := ∀ H' x, Same H H' → (∀ B, Same B H → VAt K (off B H') v x) → Q x H'
theorem vis_new {H H' B : Hp} {a dx : Addr} {k : Int} {h : V} (s : Same B H) (n : H a = none) (e : H' a = some (.ins (cVal K) dx (vF k h))) : VIs K (off B H') (.ref a) k h := ⟨a, dx, rfl, off_new s n e⟩
abbrev n_nothing : List PySem.Str := []
theorem sc_nothing : FnScope n_nothing [] d_nothing.scope := ⟨rfl, rfl, rfl, by decide +kernel, rfl, by decide +kernel, by decide +kernel⟩
theorem c_nothing (T : Tx w K mg) : Cal (CX0) P w K mg base 3 "nothing" (sp0 fun H Q _ => spMk K H .nothing Q) := by
  refine cal_mk T.fd_nothing T.g_nothing sc_nothing (fun _ _ _ _ _ _ us hl => match us, hl with | [], _ => rfl) (fun _ _ _ _ h => sp0_len h) (fun f cdv A outer s H vs Q E hr h => ?_)
  obtain ⟨rfl, q⟩ := h
  refine ⟨_, PSs.nox ((pss_one (ps_ret (pe_new (new_Value T) hr (by decide) rfl (pa_cons (pe_gi T.i_NOTHING rfl) (pa_cons pe_int pa_nil)))))), ?_⟩
  exact ⟨_, _, rfl, 0, rfl, fun H' a dx s n e => q H' _ s fun B sB => vis_new sB n e⟩
abbrev n_null : List PySem.Str := []
theorem sc_null : FnScope n_null [] d_null.scope := ⟨rfl, rfl, rfl, by decide +kernel, rfl, by decide +kernel, by decide +kernel⟩
theorem c_null (T : Tx w K mg) : Cal (CX0) P w K mg base 3 "null" (sp0 fun H Q _ => spMk K H .null Q) := by
  refine cal_mk T.fd_null T.g_null sc_null (fun _ _ _ _ _ _ us hl => match us, hl with | [], _ => rfl) (fun _ _ _ _ h => sp0_len h) (fun f cdv A outer s H vs Q E hr h => ?_)
  obtain ⟨rfl, q⟩ := h
  refine ⟨_, PSs.nox ((pss_one (ps_ret (pe_new (new_Value T) hr (by decide) rfl (pa_cons (pe_gi T.i_NULL rfl) (pa_cons pe_int pa_nil)))))), ?_⟩
  exact ⟨_, _, rfl, 1, rfl, fun H' a dx s n e => q H' _ s fun B sB => vis_new sB n e⟩
abbrev n_integer : List PySem.Str := ["number"]
theorem sc_integer : FnScope n_integer ["number"] d_integer.scope := ⟨rfl, rfl, rfl, by decide +kernel, rfl, by decide +kernel, by decide +kernel⟩
theorem c_integer (T : Tx w K mg) : Cal (CX0) P w K mg base 3 "integer" (sp1 fun x H Q _ => ∃ i, x = .int i ∧ spMk K H (.int i) Q) := by
  refine cal_mk T.fd_integer T.g_integer sc_integer (fun _ _ _ _ _ _ us hl => match us, hl with | [_], _ => rfl) (fun _ _ _ _ h => sp1_len h) (fun f cdv A outer s H vs Q E hr h => ?_)
  obtain ⟨_, rfl, i, rfl, q⟩ := h
  refine ⟨_, PSs.nox ((pss_one (ps_ret (pe_new (new_Value T) hr (by decide) rfl (pa_cons (pe_gi T.i_INTEGER rfl) (pa_cons (pv 0) pa_nil)))))), ?_⟩
  exact ⟨_, rfl, _, _, rfl, 4, rfl, fun H' a dx s n e => q H' _ s fun B sB => vis_new sB n e⟩
abbrev n_truth : List PySem.Str := ["is_so"]
theorem sc_truth : FnScope n_truth ["is_so"] d_truth.scope := ⟨rfl, rfl, rfl, by decide +kernel, rfl, by decide +kernel, by decide +kernel⟩
theorem c_truth (T : Tx w K mg) : Cal (CX0) P w K mg base 3 "truth" (sp1 fun x H Q _ => ∃ b, x = .bl b ∧ spMk K H (.bool b) Q) := by
  refine cal_mk T.fd_truth T.g_truth sc_truth (fun _ _ _ _ _ _ us hl => match us, hl with | [_], _ => rfl) (fun _ _ _ _ h => sp1_len h) (fun f cdv A outer s H vs Q E hr h => ?_)
  obtain ⟨_, rfl, b, rfl, q⟩ := h
  refine ⟨_, PSs.nox ((pss_one (ps_ret (pe_new (new_Value T) hr (by decide) rfl (pa_cons (pe_ifExp (pt_val (pv 0)) (pe_gi T.i_TRUE rfl) (pe_gi T.i_FALSE rfl)) (pa_cons pe_int pa_nil)))))), ?_⟩
  cases b with
  | true => exact ⟨_, rfl, true, rfl, if_t rfl ⟨_, _, rfl, 3, rfl, fun H' a dx s n e => q H' _ s fun B sB => vis_new sB n e⟩⟩
  | false => exact ⟨_, rfl, false, rfl, if_f rfl ⟨_, _, rfl, 2, rfl, fun H' a dx s n e => q H' _ s fun B sB => vis_new sB n e⟩⟩
def spOctetsOf : Sp := sp1 fun x H Q _ => ∃ z : PySem.Str, x = .str z ∧ z.cps.size ≤ 1000 ∧ ∀ H' t, Same H H' → H t = none → H' t = some (.tup (z.cps.toList.map natV)) → Q (.ref t) H'
abbrev n_octets_of : List PySem.Str := ["text", "sign"]
theorem sc_octets_of : FnScope n_octets_of ["text"] d_octets_of.scope := ⟨rfl, rfl, rfl, by decide +kernel, rfl, by decide +kernel, by decide +kernel⟩
theorem c_octets_of (T : Tx w K mg) : Cal (CX0) P w K mg base 1 "octets_of" (spOctetsOf) := by
  refine cal_mk T.fd_octets_of T.g_octets_of sc_octets_of (fun _ _ _ _ _ _ us hl => match us, hl with | [_], _ => rfl) (fun _ _ _ _ h => sp1_len h) (fun f cdv A outer s H vs Q E hr h => ?_)
  obtain ⟨_, rfl, z, rfl, small, q⟩ := h
  refine ⟨_, PSs.nox ((pss_one (ps_ret (pe_callTy call_tuple_of rfl T.f_tuple (by decide +kernel) (pa_cons (pe_lc (own := [("sign", 1)]) rfl sc_octets_of.nd (pi_str (pv 0)) (blkOk_by (N := n_octets_of) (sc := d_octets_of.scope) (by decide +kernel)) (fun _ _ _ _ _ => (pg_name (i := 1) sc_octets_of.nd rfl (Or.inl rfl))) (fun _ _ _ _ _ => pts_nil) (fun _ _ _ _ _ => (pe_callB call_ord rfl T.f_ord (by decide +kernel) (pa_cons (pv 1) pa_nil)))) pa_nil))))), ?_⟩
  refine ⟨_, rfl, z, rfl, fun D nD => ?_⟩
  refine lc_it walk_str (fun i H1 => Same H H1 ∧ H1 D = some (.lst ((z.cps.toList.take i).map natV))) ⟨same_new nD, upd_same⟩ (fun i H1 _ h => trivial) ?_ ?_
  · rintro i v H1 H2 hi ⟨s1, hD⟩ ⟨rfl, c, hc, rfl⟩
    refine ⟨rfl, _, rfl, _, rfl, rfl, _, hD, ?_, ?_⟩
    · rw [List.length_map, List.length_take, Array.length_toList]
      exact small1000 (by omega)
    · refine ⟨same_at nD s1, ?_⟩
      have hc' : z.cps.toList[i]? = some c := by rw [Array.getElem?_toList]; exact hc
      rw [upd_same, take_succ_get hc', List.map_append]
      rfl
  · rintro H1 ⟨s1, hD⟩
    have e : z.cps.toList.take z.cps.size = z.cps.toList := by
      rw [← Array.length_toList, take_len]
    rw [e] at hD
    exact ⟨D, _, rfl, .inl ⟨SqL.of hD, fun t nt => q _ t (s1.trans (same_new nt)) (s1.free nt) upd_same⟩⟩
abbrev n_text_of : List PySem.Str := ["text"]
theorem sc_text_of : FnScope n_text_of ["text"] d_text_of.scope := ⟨rfl, rfl, rfl, by decide +kernel, rfl, by decide +kernel, by decide +kernel⟩
theorem c_text_of (T : Tx w K mg) : Cal (CX0) P w K mg base 3 "text_of" (sp1 fun x H Q _ => ∃ z : PySem.Str, x = .str z ∧ z.cps.size ≤ 1000 ∧ byteS z ∧ spMk K H (.text (txt z)) Q) := by
  refine cal_mk T.fd_text_of T.g_text_of sc_text_of (fun _ _ _ _ _ _ us hl => match us, hl with | [_], _ => rfl) (fun _ _ _ _ h => sp1_len h) (fun f cdv A outer s H vs Q E hr h => ?_)
  obtain ⟨_, rfl, z, rfl, small, bz, q⟩ := h
  refine ⟨_, PSs.nox ((pss_one (ps_ret (pe_new (new_Value T) hr (by decide) rfl (pa_cons (pe_gi T.i_TEXT rfl) (pa_cons (pe_cal (c_octets_of T) hr (by decide) rfl passC (pa_cons (pv 0) pa_nil)) pa_nil)))))), ?_⟩
  refine ⟨_, rfl, _, rfl, z, rfl, small, fun H1 t s1 nt ht => ⟨_, _, rfl, 6, rfl, fun H' a dx s n e => q H' _ (s1.trans s) fun B sB => ⟨t, vis_new (sB.trans s1) n e, ?_⟩⟩⟩
  rw [octV_txt bz]
  exact off_new sB nt (s _ _ ht)
abbrev n_list_of : List PySem.Str := ["values"]
theorem sc_list_of : FnScope n_list_of ["values"] d_list_of.scope := ⟨rfl, rfl, rfl, by decide +kernel, rfl, by decide +kernel, by decide +kernel⟩
theorem c_list_of (T : Tx w K mg) : Cal (CX0) P w K mg base 3 "list_of" (sp1 fun x H Q _ => ∃ p xs, x = .ref p ∧ H p = some (.lst xs) ∧ ∀ H' y, Same H H' → (∀ B vs, Same B H → VMany K (off B H) vs xs → VAt K (off B H') (.list vs) y) → Q y H') := by
  refine cal_mk T.fd_list_of T.g_list_of sc_list_of (fun _ _ _ _ _ _ us hl => match us, hl with | [_], _ => rfl) (fun _ _ _ _ h => sp1_len h) (fun f cdv A outer s H vs Q E hr h => ?_)
  obtain ⟨_, rfl, p, xs, rfl, hp, q⟩ := h
  refine ⟨_, PSs.nox ((pss_one (ps_ret (pe_new (new_Value T) hr (by decide) rfl (pa_cons (pe_gi T.i_LIST rfl) (pa_cons (pe_callTy call_list_of rfl T.f_list (by decide +kernel) (pa_cons (pv 0) pa_nil)) pa_nil)))))), ?_⟩
  refine ⟨_, rfl, p, _, rfl, .inl (SqL.of hp), fun l nl => ⟨_, _, rfl, 7, rfl, fun H' a dx s n e => q H' _ ((same_new nl).trans s) fun B vs sB hv => ?_⟩⟩
  exact ⟨l, xs, vis_new (sB.trans (same_new nl)) n e, off_new sB nl (s _ _ upd_same), VMany.up (off_same ((same_new nl).trans s)) _ _ hv⟩
end
end CT


namespace CT
open PySem PySem.Spec PyProof.Rows L2
/-- a new member: its name's octets, its value -/
def EntAt (H H' : Hp) (t : Addr) (e : PySem.Str × V) : Prop := ∃ n, H t = none ∧ H n = none ∧ H' t = some (.tup [.ref n, e.2]) ∧ H' n = some (.tup (e.1.cps.toList.map natV))
theorem EntAt.up {H H1 H2 : Hp} {t : Addr} {e : PySem.Str × V} (h : EntAt H H1 t e) (s : ∀ b xs, H1 b = some (.tup xs) → H2 b = some (.tup xs)) : EntAt H H2 t e := by
  obtain ⟨n, h1, h2, h3, h4⟩ := h
  exact ⟨n, h1, h2, s _ _ h3, s _ _ h4⟩
theorem ents_of {K : PySem.W.Frag} {B H H' : Hp} (s : Same B H) (sH : Same H H') : ∀ {ts : List Addr} {es : List (PySem.Str × V)} {vs : List RWire.Value}, All2 (EntAt H H') ts es → (∀ e ∈ es, byteS e.1) → VMany K (off B H) vs (es.map Prod.snd) → VEnts K (off B H') ((es.map fun e => txt e.1).zip vs) (ts.map V.ref)
  | [], [], vs, .nil, _, h => by
    cases vs with
    | nil => rfl
    | cons v vs =>
      obtain ⟨x, ys, e, _⟩ := h
      cases e
  | t :: ts, e :: es, [], .cons h k, _, hv => by
    have hv : ((e :: es).map Prod.snd) = [] := hv
    cases hv
  | t :: ts, e :: es, v :: vs, .cons h k, bs, ⟨x, ys, ex, hx, hys⟩ => by
    obtain ⟨n, n1, n2, h1, h2⟩ := h
    cases ex
    refine ⟨t, n, e.2, ts.map V.ref, rfl, off_new s n1 h1, ?_, VAt.up (off_same sH) _ _ hx, ents_of s sH k (fun e he => bs e (List.mem_cons_of_mem _ he)) hys⟩
    show off B H' n = some (.tup (octV (txt e.1)))
    rw [octV_txt (bs e (List.mem_cons_self ..))]
    exact off_new s n2 h2
section
variable {P : Program} {w : World} {K : PySem.W.Frag} {mg : PySem.Str → Option Value} {base : Heap}
def spRecordOf (K : PySem.W.Frag) : Sp := sp1 fun x H Q _ => ∃ p ts es, x = .ref p ∧ H p = some (.lst (ts.map V.ref)) ∧ All2 (fun t (e : PySem.Str × V) => H t = some (.tup [.str e.1, e.2])) ts es ∧ es.length ≤ 500 ∧ (∀ e ∈ es, e.1.cps.size ≤ 1000 ∧ byteS e.1) ∧
  ∀ H' y, Same H H' → (∀ B vs, Same B H → VMany K (off B H) vs (es.map Prod.snd) → VAt K (off B H') (.record ((es.map fun e => txt e.1).zip vs)) y) → Q y H'
abbrev n_record_of : List PySem.Str := ["members", "name", "value"]
theorem sc_record_of : FnScope n_record_of ["members"] d_record_of.scope := ⟨rfl, rfl, rfl, by decide +kernel, rfl, by decide +kernel, by decide +kernel⟩
theorem c_record_of (T : Tx w K mg) : Cal (CX0) P w K mg base 3 "record_of" (spRecordOf K) := by
  refine cal_mk T.fd_record_of T.g_record_of sc_record_of (fun _ _ _ _ _ _ us hl => match us, hl with | [_], _ => rfl) (fun _ _ _ _ h => sp1_len h) (fun f cdv A outer s H vs Q E hr h => ?_)
  obtain ⟨_, rfl, p, ts, es, rfl, hp, hts, small, bs, q⟩ := h
  refine ⟨_, PSs.nox ((pss_one (ps_ret (pe_new (new_Value T) hr (by decide) rfl (pa_cons (pe_gi T.i_RECORD rfl) (pa_cons (pe_lc (own := [("name", 1), ("value", 2)]) rfl sc_record_of.nd (pi_list (pv 0)) (blkOk_by (N := n_record_of) (sc := d_record_of.scope) (by decide +kernel)) (fun _ _ _ _ _ => (pg_tupK (K := K) (n := 2) rfl rfl (pgs_cons (pg_name (i := 1) sc_record_of.nd rfl (Or.inl rfl)) (pgs_cons (pg_name (i := 2) sc_record_of.nd rfl (Or.inl rfl)) pgs_nil)))) (fun _ _ _ _ _ => pts_nil) (fun _ _ _ _ _ => (pe_tup (pa_cons (pe_cal (c_octets_of T) hr (by decide) rfl passC (pa_cons (pv 1) pa_nil)) (pa_cons (pv 2) pa_nil))))) pa_nil)))))), ?_⟩
  have lts := hts.len
  refine ⟨_, rfl, p, rfl, ⟨_, SqL.of hp⟩, fun D nD => ?_⟩
  refine lc_list (fun i H1 => Same H H1 ∧ ∃ rs : List Addr, rs.length = i ∧ H1 D = some (.lst (rs.map V.ref)) ∧ All2 (EntAt H H1) rs (es.take i)) ⟨same_new nD, [], rfl, upd_same, All2.nil⟩ (fun i H1 _ h => SqL.of (h.1 _ _ hp)) ?_ ?_
  · rintro i v H1 hv ⟨s1, rs, lrs, hD, hrs⟩
    have hi : i < es.length := by
      have := (List.getElem?_eq_some_iff.mp hv).1
      rw [List.length_map] at this
      omega
    obtain ⟨e, he⟩ := get_lt hi
    obtain ⟨t, ht⟩ := get_lt (l := ts) (i := i) (by omega)
    have h1 := hts.get ht he
    rw [mapRef ht] at hv
    cases hv
    have be := bs e (List.mem_of_getElem? he)
    refine ⟨t, _, rfl, SqT.of (s1 _ _ h1), rfl, _, _, rfl, _, _, rfl, rfl, rfl, _, rfl, _, rfl, e.1, rfl, be.1, fun H2 n s2 nn hn => ⟨_, rfl, lineOf (by show 2 ≤ 1000; decide), fun r nr => ?_⟩⟩
    have sr := same_new (o := .tup [.ref n, e.2]) nr
    have hD2 := sr _ _ (s2 _ _ hD)
    refine ⟨rs.map V.ref, hD2, ?_, same_at nD (s1.trans (s2.trans sr)), rs ++ [r], by simp [lrs], by rw [upd_same, List.map_append]; rfl, ?_⟩
    · rw [List.length_map]
      exact small1000 (by omega)
    · rw [take_succ_get he]
      have tp := tups_wr (o := .lst (rs.map V.ref ++ [V.ref r])) hD2 lst_tup
      refine All2.append (hrs.mono fun t e k => k.up fun b xs h => tp _ _ (sr _ _ (s2 _ _ h))) (All2.one ⟨n, s1.free (s2.free nr), s1.free nn, tp _ _ upd_same, tp _ _ (sr _ _ hn)⟩)
  · rintro H1 ⟨s1, rs, lrs, hD, hrs⟩
    rw [List.length_map, lts, take_len] at hrs
    refine ⟨_, _, rfl, 8, rfl, fun H' a dx s n e => q H' _ (s1.trans s) fun B vs sB hv => ?_⟩
    refine ⟨D, rs.map V.ref, vis_new (sB.trans s1) n e, off_new sB nD (s _ _ hD), ?_⟩
    exact ents_of sB (s1.trans s) (hrs.mono fun t e k => k.up fun b xs h => s _ _ h) (fun e he => (bs e he).2) hv
end
end CT


namespace CT
open PySem PySem.Spec PyProof.Rows L2
theorem front_app : ∀ {k : Nat} {b a r : List UInt8}, RWire.front k b = some (a, r) → b = a ++ r ∧ a.length = k
  | 0, b, a, r, h => by
    cases h
    exact ⟨rfl, rfl⟩
  | k + 1, [], a, r, h => by cases h
  | k + 1, x :: b, a, r, h => by
    unfold RWire.front at h
    cases e : RWire.front k b with
    | none => rw [e] at h; cases h
    | some q =>
      rw [e] at h
      obtain ⟨q1, q2⟩ := q
      obtain ⟨e1, e2⟩ := front_app e
      cases h
      exact ⟨by rw [e1]; rfl, by rw [List.length_cons, e2]⟩
theorem readNum_app {k n : Nat} {b r : List UInt8} (h : RWire.readNum k b = some (n, r)) : ∃ a, b = a ++ r ∧ a.length = k ∧ n = RWire.numOf a := by
  unfold RWire.readNum at h
  cases e : RWire.front k b with
  | none => rw [e] at h; cases h
  | some q =>
    rw [e] at h
    obtain ⟨q1, q2⟩ := q
    obtain ⟨e1, e2⟩ := front_app e
    cases h
    exact ⟨q1, e1, e2, rfl⟩
theorem readText_app {b u r : List UInt8} (h : RWire.readText b = some (u, r)) : ∃ a, b = a ++ (u ++ r) ∧ a.length = 4 ∧ u.length = RWire.numOf a := by
  unfold RWire.readText at h
  cases e : RWire.readNum 4 b with
  | none => rw [e] at h; cases h
  | some q =>
    rw [e] at h
    obtain ⟨q1, q2⟩ := q
    obtain ⟨a, e1, e2, e3⟩ := readNum_app e
    simp only at h
    obtain ⟨e4, e5⟩ := front_app h
    exact ⟨a, by rw [e1, e4], e2, by rw [e5, e3]⟩
theorem octV_get {bs : List UInt8} {i : Nat} {o : UInt8} (h : bs[i]? = some o) : (octV bs)[i]? = some (natV o.toNat) := by
  unfold octV
  rw [List.getElem?_map, h]
  rfl
theorem octV_len {bs : List UInt8} : (octV bs).length = bs.length := by
  unfold octV
  rw [List.length_map]
theorem numOf_step {bs : List UInt8} {j i : Nat} {o : UInt8} (h : bs[j]? = some o) : RWire.numOf ((bs.drop j).take (i + 1)) = RWire.numOf ((bs.drop (j + 1)).take i) * 256 + o.toNat := by
  have hj := (List.getElem?_eq_some_iff.mp h).1
  have e : bs.drop j = o :: bs.drop (j + 1) := by
    rw [List.drop_eq_getElem_cons hj]
    have : bs[j] = o := (List.getElem?_eq_some_iff.mp h).2
    rw [this]
  rw [e, List.take_succ_cons]
  show o.toNat + 256 * RWire.numOf ((bs.drop (j + 1)).take i) = _
  omega
theorem r_atE {K : PySem.W.Frag} {H : Hp} {a : Addr} {v y : V} {Q : V → Prop} {xs : List V} {i : Nat} (h : SqL K H a xs) (ey : y = natV i) (e : xs[i]? = some v) (q : Q v) : ∃ p ys j u, V.ref a = .ref p ∧ y = .int j ∧ SqL K H p ys ∧ atI ys j = some u ∧ Q u := ⟨a, xs, _, v, rfl, ey, h, atI_nat e, q⟩
section
variable {P : Program} {w : World} {K : PySem.W.Frag} {mg : PySem.Str → Option Value} {base : Heap}
def spNumberAt : Sp := sp3 fun x y z H Q _ => ∃ p bs i k, x = .ref p ∧ y = natV i ∧ z = natV k ∧ H p = some (.lst (octV bs)) ∧ i + k ≤ bs.length ∧ k ≤ 8 ∧ Q (natV (RWire.numOf ((bs.drop i).take k))) H
abbrev n_number_at : List PySem.Str := ["octets", "place", "many", "found", "at"]
theorem sc_number_at : FnScope n_number_at ["octets", "place", "many"] d_number_at.scope := ⟨rfl, rfl, rfl, by decide +kernel, rfl, by decide +kernel, by decide +kernel⟩
theorem c_number_at (T : Tx w K mg) : Cal (CX0) P w K mg base 1 "number_at" (spNumberAt) := by
  refine cal_mk T.fd_number_at T.g_number_at sc_number_at (fun _ _ _ _ _ _ us hl => match us, hl with | [_, _, _], _ => rfl) (fun _ _ _ _ h => sp3_len h) (fun f cdv A outer s H vs Q E hr h => ?_)
  obtain ⟨_, _, _, rfl, p, bs, i, k, rfl, rfl, rfl, hp, hl, hk, q⟩ := h
  refine ⟨_, PSs.nox ((pss_cons (ps_set (i := 3) sc_number_at.nd rfl (Or.inl rfl) pe_int)
      (pss_cons (ps_for PassesOwn.never rfl (pi_range3 rfl T.f_range (pa_cons (pe_op op_sub (pv 2) pe_int) (pa_cons (pe_un un_neg pe_int) (pa_cons (pe_un un_neg pe_int) pa_nil)))) (pg_name (i := 4) sc_number_at.nd rfl (Or.inl rfl)) (pss_one (ps_set (i := 3) sc_number_at.nd rfl (Or.inl rfl) (pe_op op_add (pe_op op_mul (pv 3) pe_int) (pe_ix ix_list (pv 0) (pe_op op_add (pv 1) (pv 4)) (fun _ _ => rfl))))))
      (pss_one (ps_ret (pv 3)))))), ?_⟩
  have rg : RgC ((k : Int) - 1) (-1) (-1) k := by
    have := RgC.neg (i := (k : Int) - 1) (j := -1) (by omega) (by omega) (by omega) (by omega)
    rw [show ((k : Int) - 1 - -1).toNat = k by omega] at this
    exact this
  refine ⟨_, rfl, _, _, rfl, rfl, _, rfl, _, rfl, _, _, _, k, rfl, rg, ?_⟩
  refine for_rangeC (fun j σ H1 => H1 = H ∧ ∃ o, σ = [some (.ref p), some (natV i), some (natV k), some (natV (RWire.numOf ((bs.drop (i + k - j)).take j))), o]) ⟨rfl, _, rfl⟩ ?_ ?_
  · rintro j σ H1 hj ⟨rfl, o, rfl⟩
    obtain ⟨c, hc⟩ := get_lt (l := bs) (i := i + k - (j + 1)) (by omega)
    have e1 : V.int ((i : Int) + ((k : Int) - 1 + (j : Nat) * -1)) = natV (i + k - (j + 1)) := congrArg V.int (by omega)
    refine ⟨_, rfl, _, _, rfl, rfl, .inr ⟨by decide, by decide⟩, _, rfl, _, rfl, _, rfl, _, _, rfl, rfl, ?_⟩
    refine r_atE (SqL.of hp) e1 (octV_get hc) ⟨_, _, rfl, rfl, rfl, some (.int ((k : Int) - 1 + (j : Nat) * -1)), ?_⟩
    have st := numOf_step (i := j) hc
    rw [show i + k - (j + 1) + 1 = i + k - j by omega] at st
    rw [st]
    rfl
  · rintro σ H1 ⟨rfl, o, rfl⟩
    rw [show i + k - k = i by omega]
    exact ⟨_, rfl, q⟩
def spIntegerAt : Sp := sp2 fun x y H Q _ => ∃ p bs i, x = .ref p ∧ y = natV i ∧ H p = some (.lst (octV bs)) ∧ i + 8 ≤ bs.length ∧ Q (.int (RWire.intOf (RWire.numOf ((bs.drop i).take 8)))) H
abbrev n_integer_at : List PySem.Str := ["octets", "place", "number"]
theorem sc_integer_at : FnScope n_integer_at ["octets", "place"] d_integer_at.scope := ⟨rfl, rfl, rfl, by decide +kernel, rfl, by decide +kernel, by decide +kernel⟩
theorem c_integer_at (T : Tx w K mg) : Cal (CX0) P w K mg base 2 "integer_at" (spIntegerAt) := by
  refine cal_mk T.fd_integer_at T.g_integer_at sc_integer_at (fun _ _ _ _ _ _ us hl => match us, hl with | [_, _], _ => rfl) (fun _ _ _ _ h => sp2_len h) (fun f cdv A outer s H vs Q E hr h => ?_)
  obtain ⟨_, _, rfl, p, bs, i, rfl, rfl, hp, hl, q⟩ := h
  refine ⟨_, PSs.nox ((pss_cons (ps_set (i := 2) sc_integer_at.nd rfl (Or.inl rfl) (pe_cal (c_number_at T) hr (by decide) rfl passC (pa_cons (pv 0) (pa_cons (pv 1) (pa_cons pe_int pa_nil)))))
      (pss_one (ps_ret (pe_ifExp (pt_cmpR op_ge (pv 2) (pe_gi T.i_HALF_octets rfl) (nomark _)) (pe_op op_sub (pv 2) (pe_gi T.i_EIGHT rfl)) (pv 2)))))), ?_⟩
  refine ⟨_, rfl, _, rfl, _, _, _, rfl, p, bs, i, 8, rfl, rfl, rfl, hp, hl, by decide, ?_⟩
  generalize RWire.numOf ((bs.drop i).take 8) = n at q
  refine ⟨_, rfl, _, _, rfl, rfl, _, rfl, ?_⟩
  unfold RWire.intOf at q
  by_cases c : n < 9223372036854775808
  · rw [if_pos (decide_eq_true c)] at q
    exact if_f (decide_eq_false (by omega)) ⟨_, rfl, q⟩
  · rw [if_neg (by simpa using c)] at q
    exact if_t (decide_eq_true (by omega)) ⟨_, rfl, _, _, rfl, rfl, q⟩
def spTextAt : Sp := sp2 fun x y H Q _ => ∃ p bs i u r, x = .ref p ∧ y = natV i ∧ H p = some (.lst (octV bs)) ∧ RWire.readText (bs.drop i) = some (u, r) ∧ bs.length < 1000000 ∧
  ∀ H' a t, Same H H' → H a = none → H t = none → H' a = some (.tup [.ref t, natV (bs.length - r.length)]) → H' t = some (.tup (octV u)) → Q (.ref a) H'
abbrev n_text_at : List PySem.Str := ["octets", "place", "many"]
theorem sc_text_at : FnScope n_text_at ["octets", "place"] d_text_at.scope := ⟨rfl, rfl, rfl, by decide +kernel, rfl, by decide +kernel, by decide +kernel⟩
theorem c_text_at (T : Tx w K mg) : Cal (CX0) P w K mg base 2 "text_at" (spTextAt) := by
  refine cal_mk T.fd_text_at T.g_text_at sc_text_at (fun _ _ _ _ _ _ us hl => match us, hl with | [_, _], _ => rfl) (fun _ _ _ _ h => sp2_len h) (fun f cdv A outer s H vs Q E hr h => ?_)
  obtain ⟨_, _, rfl, p, bs, i, u, r, rfl, rfl, hp, hrd, small, q⟩ := h
  refine ⟨_, PSs.nox ((pss_cons (ps_set (i := 2) sc_text_at.nd rfl (Or.inl rfl) (pe_cal (c_number_at T) hr (by decide) rfl passC (pa_cons (pv 0) (pa_cons (pv 1) (pa_cons pe_int pa_nil)))))
      (pss_one (ps_ret (pe_tup (pa_cons (pe_callTy call_tuple_of rfl T.f_tuple (by decide +kernel) (pa_cons (pe_slice sl_list (pv 0) (po_some (pe_op op_add (pv 1) pe_int)) (po_some (pe_op op_add (pe_op op_add (pv 1) pe_int) (pv 2)))) pa_nil)) (pa_cons (pe_op op_add (pe_op op_add (pv 1) pe_int) (pv 2)) pa_nil))))))), ?_⟩
  obtain ⟨a4, e1, e2, e3⟩ := readText_app hrd
  have ll : (bs.drop i).length = 4 + (u.length + r.length) := by rw [e1, List.length_append, List.length_append, e2]
  have hle : i + (4 + (u.length + r.length)) = bs.length := by
    rw [List.length_drop] at ll
    omega
  have en : RWire.numOf ((bs.drop i).take 4) = u.length := by
    rw [e1, List.take_append_of_le_length (by omega), ← e2, List.take_length, e3]
  refine ⟨_, rfl, _, rfl, _, _, _, rfl, p, bs, i, 4, rfl, rfl, rfl, hp, by omega, by decide, ?_⟩
  rw [en]
  refine ⟨_, rfl, _, rfl, _, _, rfl, rfl, _, rfl, _, rfl, _, _, rfl, rfl, _, rfl, _, _, rfl, rfl, _, rfl, p, _, rfl, SqL.of hp, fun c nc => ?_⟩
  have ec : cutV (octV bs) (some ((i : Int) + 4)) (some ((i : Int) + 4 + (u.length : Nat))) = octV u := by
    have c1 : (i : Int) + 4 = ((i + 4 : Nat) : Int) := rfl
    have c2 : (i : Int) + 4 + (u.length : Nat) = ((i + 4 + u.length : Nat) : Int) := rfl
    rw [c2, c1]
    unfold cutV
    rw [HT.sIx_nat, HT.sIx_nat, octV_len, Nat.min_eq_left (by omega), Nat.min_eq_left (by omega)]
    unfold octV
    rw [← List.map_drop, ← List.map_take]
    congr 1
    have : bs.drop (i + 4) = u ++ r := by
      rw [← List.drop_drop, e1, List.drop_append_of_le_length (by omega), ← e2, List.drop_length]
      rfl
    rw [this, show i + 4 + u.length - (i + 4) = u.length by omega, List.take_append_of_le_length (Nat.le_refl _), List.take_length]
  rw [ec]
  have sc := same_new (o := .lst (octV u)) nc
  refine ⟨c, _, rfl, .inl ⟨SqL.of upd_same, fun t nt => ⟨_, rfl, _, _, rfl, rfl, _, rfl, _, _, rfl, rfl, lineOf (by show 2 ≤ 1000; decide), fun a na => ?_⟩⟩⟩
  have st := same_new (o := .tup (octV u)) nt
  have ep : V.int ((i : Int) + 4 + (u.length : Nat)) = natV (bs.length - r.length) := congrArg V.int (by omega)
  refine q _ a t (sc.trans (st.trans (same_new na))) (sc.free (st.free na)) (sc.free nt) ?_ (same_new na _ _ upd_same)
  rw [upd_same, ← ep]
end
end CT


namespace CT
open PySem PySem.Spec PyProof.Rows L2
/-! ### what is new, but for one object -/
def offD (B : Hp) (D : Addr) (H : Hp) : Hp := fun b => if b = D then none else off B H b
theorem offD_upd {B H : Hp} {D : Addr} {o : HO} : offD B D (upd H D o) = offD B D H := by
  funext b
  unfold offD
  by_cases z : b = D
  · rw [if_pos z, if_pos z]
  · rw [if_neg z, if_neg z]
    unfold off
    rw [upd_ne z]
theorem offD_same {B H H' : Hp} {D : Addr} (s : Same H H') : Same (offD B D H) (offD B D H') := fun b o h => by
  unfold offD at h ⊢
  by_cases z : b = D
  · rw [if_pos z] at h
    cases h
  · rw [if_neg z] at h ⊢
    exact off_same s b o h
theorem offD_off {B H : Hp} {D : Addr} : Same (offD B D H) (off B H) := fun b o h => by
  unfold offD at h
  by_cases z : b = D
  · rw [if_pos z] at h
    cases h
  · rw [if_neg z] at h
    exact h
def withD (B : Hp) (D : Addr) (o : HO) : Hp := fun b => if b = D then some o else B b
theorem off_with {B H : Hp} {D : Addr} {o : HO} : off (withD B D o) H = offD B D H := by
  funext b
  unfold off offD withD
  by_cases z : b = D
  · simp [z]
  · simp [z, off]
theorem with_same {B H H1 : Hp} {D : Addr} {o : HO} (sB : Same B H) (s : Same H H1) (h : H1 D = some o) : Same (withD B D o) H1 := fun b u e => by
  unfold withD at e
  by_cases z : b = D
  · rw [if_pos z] at e
    cases e
    rw [z]
    exact h
  · rw [if_neg z] at e
    exact s _ _ (sB _ _ e)
/-! ### what is read -/
def goodV (v : RWire.Value) : Prop := RWire.noBig v = true ∧ RWire.noOctets v = true ∧ RWire.noWide v = true
def goodL (l : List RWire.Value) : Prop := ∀ v ∈ l, goodV v
def goodE (l : List (RWire.Text × RWire.Value)) : Prop := ∀ e ∈ l, goodV e.2
theorem goodL_of : ∀ {l : List RWire.Value}, RWire.noBigMany l = true → RWire.noOctetsMany l = true → RWire.noWideMany l = true → goodL l
  | [], _, _, _ => fun v hv => by cases hv
  | u :: r, h1, h2, h3 => fun v hv => by
    simp only [RWire.noBigMany, RWire.noOctetsMany, RWire.noWideMany, Bool.and_eq_true] at h1 h2 h3
    rcases List.mem_cons.mp hv with e | h
    · rw [e]
      exact ⟨h1.1, h2.1, h3.1⟩
    · exact goodL_of h1.2 h2.2 h3.2 v h
theorem goodE_of : ∀ {l : List (RWire.Text × RWire.Value)}, RWire.noBigEntries l = true → RWire.noOctetsEntries l = true → RWire.noWideEntries l = true → goodE l
  | [], _, _, _ => fun v hv => by cases hv
  | u :: r, h1, h2, h3 => fun v hv => by
    simp only [RWire.noBigEntries, RWire.noOctetsEntries, RWire.noWideEntries, Bool.and_eq_true] at h1 h2 h3
    rcases List.mem_cons.mp hv with e | h
    · rw [e]
      exact ⟨h1.1, h2.1, h3.1⟩
    · exact goodE_of h1.2 h2.2 h3.2 v h
abbrev RdF := RWire.Octets → Option (RWire.Value × RWire.Octets)
/-- what a kind octet and the octets behind it give -/
inductive RK (f : RdF) : Nat → RWire.Octets → RWire.Value → RWire.Octets → Prop where
  | nothing {r} : RK f 0 r .nothing r
  | null {r} : RK f 1 r .null r
  | no {r} : RK f 2 r (.bool false) r
  | yes {r} : RK f 3 r (.bool true) r
  | int {r n s} : RWire.readNum 8 r = some (n, s) → RK f 4 r (.int (RWire.intOf n)) s
  | text {r u s} : RWire.readText r = some (u, s) → RK f 6 r (.text u) s
  | list {r n p l s} : RWire.readNum 4 r = some (n, p) → RWire.readMany f n p = some (l, s) → goodL l → RK f 7 r (.list l) s
  | record {r n p l s} : RWire.readNum 4 r = some (n, p) → RWire.readMany (RWire.readEntry f) n p = some (l, s) → goodE l → RK f 8 r (.record l) s
theorem rk_of {f : RdF} {k : Nat} {r s : RWire.Octets} {v : RWire.Value} (h : RWire.readKind f k r = some (v, s)) (g : goodV v) : RK f k r v s := by
  unfold RWire.readKind at h
  split at h
  · cases h; exact .nothing
  · cases h; exact .null
  · cases h; exact .no
  · cases h; exact .yes
  · unfold RWire.readInt at h
    cases e : RWire.readNum 8 r with
    | none => rw [e] at h; cases h
    | some q =>
      obtain ⟨n, t⟩ := q
      rw [e] at h
      simp only at h
      split at h
      · cases h
        exact .int e
      · cases h
  · unfold RWire.readBig at h
    split at h
    · cases h
    · split at h
      · cases h
      · split at h
        · cases h
        · split at h
          · cases h
          · cases h
            cases g.1
  · unfold RWire.readWords at h
    cases e : RWire.readText r with
    | none => rw [e] at h; cases h
    | some q =>
      rw [e] at h
      cases h
      exact .text e
  · unfold RWire.readList at h
    cases e : RWire.readNum 4 r with
    | none => rw [e] at h; cases h
    | some q =>
      obtain ⟨n, p⟩ := q
      rw [e] at h
      simp only at h
      cases e2 : RWire.readMany f n p with
      | none => rw [e2] at h; cases h
      | some q2 =>
        rw [e2] at h
        cases h
        exact .list e e2 (goodL_of (by simpa [RWire.noBig] using g.1) (by simpa [RWire.noOctets] using g.2.1) (by simpa [RWire.noWide] using g.2.2))
  · unfold RWire.readRecord at h
    cases e : RWire.readNum 4 r with
    | none => rw [e] at h; cases h
    | some q =>
      obtain ⟨n, p⟩ := q
      rw [e] at h
      simp only at h
      cases e2 : RWire.readMany (RWire.readEntry f) n p with
      | none => rw [e2] at h; cases h
      | some q2 =>
        rw [e2] at h
        simp only at h
        split at h
        · cases h
          exact .record e e2 (goodE_of (by simpa [RWire.noBig] using g.1) (by simpa [RWire.noOctets] using g.2.1) (by simpa [RWire.noWide] using g.2.2))
        · cases h
  · unfold RWire.readOctets at h
    split at h
    · cases h
    · cases h
      cases g.2.1
  · unfold RWire.readWide at h
    split at h
    · cases h
    · split at h
      · cases h
      · split at h
        · cases h
          cases g.2.2
        · cases h
  · cases h
/-- each reading takes an octet at least, and what is left is an end of what there was -/
def Eats (f : RdF) : Prop := ∀ r v s, f r = some (v, s) → goodV v → ∃ a, r = a ++ s ∧ 1 ≤ a.length
theorem many_eats {α : Type} {f : RWire.Octets → Option (α × RWire.Octets)} {good : α → Prop} (hf : ∀ r v s, f r = some (v, s) → good v → ∃ a, r = a ++ s ∧ 1 ≤ a.length) : ∀ {n : Nat} {r s : RWire.Octets} {l : List α}, RWire.readMany f n r = some (l, s) → (∀ v ∈ l, good v) → ∃ a, r = a ++ s ∧ n ≤ a.length ∧ l.length = n
  | 0, r, s, l, h, g => by
    cases h
    exact ⟨[], rfl, Nat.le_refl _, rfl⟩
  | n + 1, r, s, l, h, g => by
    unfold RWire.readMany at h
    cases e : f r with
    | none => rw [e] at h; cases h
    | some q =>
      obtain ⟨v, t⟩ := q
      rw [e] at h
      simp only at h
      cases e2 : RWire.readMany f n t with
      | none => rw [e2] at h; cases h
      | some q2 =>
        obtain ⟨l2, s2⟩ := q2
        rw [e2] at h
        cases h
        obtain ⟨a, e3, e4⟩ := hf r v t e (g v (List.mem_cons_self ..))
        obtain ⟨b, e5, e6, e7⟩ := many_eats hf e2 (fun u hu => g u (List.mem_cons_of_mem _ hu))
        exact ⟨a ++ b, by rw [e3, e5, List.append_assoc], by rw [List.length_append]; omega, by rw [List.length_cons, e7]⟩
theorem entry_eats {f : RdF} (hf : Eats f) : ∀ r (e : RWire.Text × RWire.Value) s, RWire.readEntry f r = some (e, s) → goodV e.2 → ∃ a, r = a ++ s ∧ 1 ≤ a.length := by
  intro r e s h g
  unfold RWire.readEntry at h
  cases e1 : RWire.readText r with
  | none => rw [e1] at h; cases h
  | some q =>
    obtain ⟨u, t⟩ := q
    rw [e1] at h
    simp only at h
    cases e2 : f t with
    | none => rw [e2] at h; cases h
    | some q2 =>
      obtain ⟨v, s2⟩ := q2
      rw [e2] at h
      cases h
      obtain ⟨a, e3, e4, _⟩ := readText_app e1
      obtain ⟨b, e5, _⟩ := hf t v _ e2 g
      exact ⟨a ++ (u ++ b), by rw [e3, e5]; simp, by rw [List.length_append]; omega⟩
theorem rk_eats {f : RdF} (hf : Eats f) {k : Nat} {r s : RWire.Octets} {v : RWire.Value} (h : RK f k r v s) : ∃ a, r = a ++ s := by
  cases h with
  | nothing => exact ⟨[], rfl⟩
  | null => exact ⟨[], rfl⟩
  | no => exact ⟨[], rfl⟩
  | yes => exact ⟨[], rfl⟩
  | int h =>
    obtain ⟨a, e, _⟩ := readNum_app h
    exact ⟨a, e⟩
  | text h =>
    obtain ⟨a, e, _⟩ := readText_app h
    exact ⟨a ++ _, by rw [e, List.append_assoc]⟩
  | list h k g =>
    obtain ⟨a, e, _⟩ := readNum_app h
    obtain ⟨b, e2, _⟩ := many_eats hf k g
    exact ⟨a ++ b, by rw [e, e2, List.append_assoc]⟩
  | record h k g =>
    obtain ⟨a, e, _⟩ := readNum_app h
    obtain ⟨b, e2, _⟩ := many_eats (entry_eats hf) k g
    exact ⟨a ++ b, by rw [e, e2, List.append_assoc]⟩
theorem eats : ∀ n : Nat, Eats (RWire.readF n)
  | 0 => fun r v s h => by cases h
  | n + 1 => fun r v s h g => by
    cases r with
    | nil => cases h
    | cons k r =>
      have h : RWire.readKind (RWire.readF n) k.toNat r = some (v, s) := h
      obtain ⟨a, e⟩ := rk_eats (eats n) (rk_of h g)
      exact ⟨k :: a, by rw [e]; rfl, by simp⟩
end CT

namespace CT
open PySem PySem.Spec PyProof.Rows L2
theorem drop_of {bs a r : List UInt8} {i : Nat} (h : bs.drop i = a ++ r) : bs.drop (i + a.length) = r := by
  rw [← List.drop_drop, h, List.drop_append_of_le_length (Nat.le_refl _), List.drop_length]
  rfl
theorem place_of {bs a r : List UInt8} {i : Nat} (h : bs.drop i = a ++ r) (n : 1 ≤ a.length ∨ i ≤ bs.length) : i + a.length = bs.length - r.length ∧ i + a.length ≤ bs.length := by
  have := congrArg List.length h
  rw [List.length_drop, List.length_append] at this
  omega
theorem many_step {α : Type} {f : RWire.Octets → Option (α × RWire.Octets)} {n : Nat} {r s : RWire.Octets} {l : List α} (h : RWire.readMany f (n + 1) r = some (l, s)) : ∃ v t l2, f r = some (v, t) ∧ RWire.readMany f n t = some (l2, s) ∧ l = v :: l2 := by
  unfold RWire.readMany at h
  cases e : f r with
  | none => rw [e] at h; cases h
  | some q =>
    obtain ⟨v, t⟩ := q
    rw [e] at h
    simp only at h
    cases e2 : RWire.readMany f n t with
    | none => rw [e2] at h; cases h
    | some q2 =>
      obtain ⟨l2, s2⟩ := q2
      rw [e2] at h
      cases h
      exact ⟨v, t, l2, rfl, e2, rfl⟩
section
variable {P : Program} {w : World} {K : PySem.W.Frag} {mg : PySem.Str → Option Value} {base : Heap}
def spValueAt (K : PySem.W.Frag) (n : Nat) : Sp := sp2 fun x y H Q _ => ∃ p bs i v r, x = .ref p ∧ y = natV i ∧ H p = some (.lst (octV bs)) ∧ bs.length < 1000000 ∧ RWire.readF n (bs.drop i) = some (v, r) ∧ goodV v ∧
  ∀ H' a x, Same H H' → H' a = some (.tup [x, natV (bs.length - r.length)]) → (∀ B, Same B H → VAt K (off B H') v x) → Q (.ref a) H'
def spListAt (K : PySem.W.Frag) (n : Nat) : Sp := sp2 fun x y H Q _ => ∃ p bs i k r0 l r, x = .ref p ∧ y = natV i ∧ H p = some (.lst (octV bs)) ∧ bs.length < 1000000 ∧ i ≤ bs.length ∧ RWire.readNum 4 (bs.drop i) = some (k, r0) ∧ RWire.readMany (RWire.readF n) k r0 = some (l, r) ∧ goodL l ∧
  ∀ H' a c xs, Same H H' → H' a = some (.tup [.ref c, natV (bs.length - r.length)]) → H c = none → H' c = some (.lst xs) → (∀ B, Same B H → VMany K (off B H') l xs) → Q (.ref a) H'
abbrev n_list_at : List PySem.Str := ["octets", "place", "many", "found", "turn", "value"]
theorem sc_list_at : FnScope n_list_at ["octets", "place"] d_list_at.scope := ⟨rfl, rfl, rfl, by decide +kernel, rfl, by decide +kernel, by decide +kernel⟩
theorem c_list_at_of (T : Tx w K mg) {n : Nat} (cv : Cal CX0 P w K mg base (2 * n + 6) "value_at" (spValueAt K n)) : Cal (CX0) P w K mg base (2 * n + 6 + 1) "list_at" (spListAt K n) := by
  refine cal_mk T.fd_list_at T.g_list_at sc_list_at (fun _ _ _ _ _ _ us hl => match us, hl with | [_, _], _ => rfl) (fun _ _ _ _ h => sp2_len h) (fun f cdv A outer s H vs Q E hr h => ?_)
  obtain ⟨_, _, rfl, p, bs, i, k, r0, l, r, rfl, rfl, hp, small, li, hk, hm, gl, q⟩ := h
  refine ⟨_, PSs.nox ((pss_cons (ps_set (i := 2) sc_list_at.nd rfl (Or.inl rfl) (pe_cal (c_number_at T) hr (by omega) rfl passC (pa_cons (pv 0) (pa_cons (pv 1) (pa_cons pe_int pa_nil)))))
      (pss_cons (ps_aug (i := 1) sc_list_at.nd rfl (Or.inl rfl) pe_int ip_add)
      (pss_cons (ps_set (i := 3) sc_list_at.nd rfl (Or.inl rfl) (pe_lst pa_nil))
      (pss_cons (ps_for PassesOwn.never rfl (pi_range1 rfl T.f_range (pa_cons (pv 2) pa_nil)) (pg_name (i := 4) sc_list_at.nd rfl (Or.inl rfl)) (pss_cons (ps_asg (pe_cal cv hr (by omega) rfl passC (pa_cons (pv 0) (pa_cons (pv 1) pa_nil))) (pg_tup rfl (pgs_cons (pg_name (i := 5) sc_list_at.nd rfl (Or.inl rfl)) (pgs_cons (pg_name (i := 1) sc_list_at.nd rfl (Or.inl rfl)) pgs_nil))))
      (pss_one (ps_expr (pe_bm PySem.F.plainAttrs_list PySem.F.slot_list_append PySem.F.type_list_append mt_append (pv 3) (pa_cons (pv 5) pa_nil))))))
      (pss_one (ps_ret (pe_tup (pa_cons (pv 3) (pa_cons (pv 1) pa_nil)))))))))), ?_⟩
  obtain ⟨a4, e1, e2, e3⟩ := readNum_app hk
  obtain ⟨pl1, pl2⟩ := place_of e1 (.inr li)
  have en : RWire.numOf ((bs.drop i).take 4) = k := by
    rw [e1, List.take_append_of_le_length (by omega), ← e2, List.take_length, e3]
  have hd := drop_of e1
  rw [e2] at hd pl1 pl2
  obtain ⟨am, em1, em2, em3⟩ := many_eats (eats n) hm gl
  have lk : k ≤ bs.length := by
    have h1 := congrArg List.length hd
    have h2 := congrArg List.length em1
    rw [List.length_drop] at h1
    rw [List.length_append] at h2
    omega
  refine ⟨_, rfl, _, rfl, _, _, _, rfl, p, bs, i, 4, rfl, rfl, rfl, hp, by omega, by decide, ?_⟩
  rw [en]
  refine ⟨_, rfl, _, _, rfl, rfl, lineOf (by show 0 ≤ 1000; decide), fun D nD => ?_⟩
  have sD := same_new (o := .lst []) nD
  refine ⟨_, rfl, _, rfl, by omega, by omega, ?_⟩
  refine for_range (fun j σ H1 => Same H H1 ∧ ∃ l1 l2 xs t o4 o5, H1 D = some (.lst xs) ∧ l = l1 ++ l2 ∧ l1.length = j ∧ xs.length = j ∧ RWire.readMany (RWire.readF n) (k - j) t = some (l2, r) ∧ bs.drop (bs.length - t.length) = t ∧ (∀ B, Same B H → VMany K (offD B D H1) l1 xs) ∧
      σ = [some (.ref p), some (natV (bs.length - t.length)), some (natV k), some (.ref D), o4, o5]) ⟨sD, [], l, [], r0, none, none, upd_same, rfl, rfl, rfl, hm, ?_, fun B sB => rfl, ?_⟩ ?_ ?_
  · rw [← pl1]
    exact hd
  · rw [← pl1]
    rfl
  · rintro j σ H1 hj ⟨s1, l1, l2, xs, t, o4, o5, hD, el, ll, lx, ht, hdt, hv, rfl⟩
    have hj' : j < k := by simpa using hj
    rw [show k - j = k - (j + 1) + 1 by omega] at ht
    obtain ⟨v, t2, l3, f1, f2, f3⟩ := many_step ht
    have gv : goodV v := gl v (by rw [el, f3]; simp)
    refine ⟨_, rfl, _, rfl, _, _, rfl, p, bs, bs.length - t.length, v, t2, rfl, rfl, s1 _ _ hp, small, by rw [hdt]; exact f1, gv, fun H2 a x s2 ha hx => ?_⟩
    refine ⟨a, _, rfl, SqT.of ha, rfl, _, _, rfl, _, _, rfl, rfl, ?_⟩
    have hD2 := s2 _ _ hD
    refine ⟨_, rfl, .inl ⟨rfl, _, SqL.of hD2⟩, _, rfl, D, _, _, rfl, rfl, hD2, lt_line (by omega), same_at nD (s1.trans s2), l1 ++ [v], l3, xs ++ [x], t2, _, _, upd_same, by rw [el, f3]; simp, by simp [ll], by simp [lx], by rw [show k - (j + 1) = k - (j + 1) from rfl]; exact f2, ?_, fun B sB => ?_, rfl⟩
    · obtain ⟨b, e5, e6⟩ := eats n t v t2 f1 gv
      rw [e5] at hdt
      have h3 := drop_of hdt
      have h4 := place_of hdt (.inl e6)
      rw [← e5] at h3 h4
      rw [← h4.1]
      exact h3
    · rw [offD_upd]
      have h1 := hx _ (with_same sB s1 hD)
      rw [off_with] at h1
      exact VMany.snoc h1 (VMany.up (offD_same s2) _ _ (hv B sB))
  · rintro σ H1 ⟨s1, l1, l2, xs, t, o4, o5, hD, el, ll, lx, ht, hdt, hv, rfl⟩
    rw [Int.toNat_natCast, Nat.sub_self] at ht
    cases ht
    rw [List.append_nil] at el
    subst el
    refine ⟨_, rfl, _, rfl, lineOf (by show 2 ≤ 1000; decide), fun a na => ?_⟩
    have sa := same_new (o := .tup [.ref D, natV (bs.length - r.length)]) na
    exact q _ a D xs (s1.trans sa) upd_same nD (sa _ _ hD) fun B sB => VMany.up ((offD_off).trans (off_same sa)) _ _ (hv B sB)
end
end CT


namespace CT
open PySem PySem.Spec PyProof.Rows L2
theorem entry_step {f : RdF} {r s : RWire.Octets} {e : RWire.Text × RWire.Value} (h : RWire.readEntry f r = some (e, s)) : ∃ t, RWire.readText r = some (e.1, t) ∧ f t = some (e.2, s) := by
  unfold RWire.readEntry at h
  cases e1 : RWire.readText r with
  | none => rw [e1] at h; cases h
  | some q =>
    obtain ⟨u, t⟩ := q
    rw [e1] at h
    simp only at h
    cases e2 : f t with
    | none => rw [e2] at h; cases h
    | some q2 =>
      obtain ⟨v, s2⟩ := q2
      rw [e2] at h
      cases h
      exact ⟨t, rfl, e2⟩
section
variable {P : Program} {w : World} {K : PySem.W.Frag} {mg : PySem.Str → Option Value} {base : Heap}
def spMembersAt (K : PySem.W.Frag) (n : Nat) : Sp := sp2 fun x y H Q _ => ∃ p bs i k r0 l r, x = .ref p ∧ y = natV i ∧ H p = some (.lst (octV bs)) ∧ bs.length < 1000000 ∧ i ≤ bs.length ∧ RWire.readNum 4 (bs.drop i) = some (k, r0) ∧ RWire.readMany (RWire.readEntry (RWire.readF n)) k r0 = some (l, r) ∧ goodE l ∧
  ∀ H' a c xs, Same H H' → H' a = some (.tup [.ref c, natV (bs.length - r.length)]) → H c = none → H' c = some (.lst xs) → (∀ B, Same B H → VEnts K (off B H') l xs) → Q (.ref a) H'
abbrev n_members_at : List PySem.Str := ["octets", "place", "many", "found", "turn", "name", "value"]
theorem sc_members_at : FnScope n_members_at ["octets", "place"] d_members_at.scope := ⟨rfl, rfl, rfl, by decide +kernel, rfl, by decide +kernel, by decide +kernel⟩
theorem c_members_at_of (T : Tx w K mg) {n : Nat} (cv : Cal CX0 P w K mg base (2 * n + 6) "value_at" (spValueAt K n)) : Cal (CX0) P w K mg base (2 * n + 6 + 1) "members_at" (spMembersAt K n) := by
  refine cal_mk T.fd_members_at T.g_members_at sc_members_at (fun _ _ _ _ _ _ us hl => match us, hl with | [_, _], _ => rfl) (fun _ _ _ _ h => sp2_len h) (fun f cdv A outer s H vs Q E hr h => ?_)
  obtain ⟨_, _, rfl, p, bs, i, k, r0, l, r, rfl, rfl, hp, small, li, hk, hm, gl, q⟩ := h
  refine ⟨_, PSs.nox ((pss_cons (ps_set (i := 2) sc_members_at.nd rfl (Or.inl rfl) (pe_cal (c_number_at T) hr (by omega) rfl passC (pa_cons (pv 0) (pa_cons (pv 1) (pa_cons pe_int pa_nil)))))
      (pss_cons (ps_aug (i := 1) sc_members_at.nd rfl (Or.inl rfl) pe_int ip_add)
      (pss_cons (ps_set (i := 3) sc_members_at.nd rfl (Or.inl rfl) (pe_lst pa_nil))
      (pss_cons (ps_for PassesOwn.never rfl (pi_range1 rfl T.f_range (pa_cons (pv 2) pa_nil)) (pg_name (i := 4) sc_members_at.nd rfl (Or.inl rfl)) (pss_cons (ps_asg (pe_cal (c_text_at T) hr (by omega) rfl passC (pa_cons (pv 0) (pa_cons (pv 1) pa_nil))) (pg_tup rfl (pgs_cons (pg_name (i := 5) sc_members_at.nd rfl (Or.inl rfl)) (pgs_cons (pg_name (i := 1) sc_members_at.nd rfl (Or.inl rfl)) pgs_nil))))
      (pss_cons (ps_asg (pe_cal cv hr (by omega) rfl passC (pa_cons (pv 0) (pa_cons (pv 1) pa_nil))) (pg_tup rfl (pgs_cons (pg_name (i := 6) sc_members_at.nd rfl (Or.inl rfl)) (pgs_cons (pg_name (i := 1) sc_members_at.nd rfl (Or.inl rfl)) pgs_nil))))
      (pss_one (ps_expr (pe_bm PySem.F.plainAttrs_list PySem.F.slot_list_append PySem.F.type_list_append mt_append (pv 3) (pa_cons (pe_tup (pa_cons (pv 5) (pa_cons (pv 6) pa_nil))) pa_nil)))))))
      (pss_one (ps_ret (pe_tup (pa_cons (pv 3) (pa_cons (pv 1) pa_nil)))))))))), ?_⟩
  obtain ⟨a4, e1, e2, e3⟩ := readNum_app hk
  obtain ⟨pl1, pl2⟩ := place_of e1 (.inr li)
  have en : RWire.numOf ((bs.drop i).take 4) = k := by
    rw [e1, List.take_append_of_le_length (by omega), ← e2, List.take_length, e3]
  have hd := drop_of e1
  rw [e2] at hd pl1 pl2
  obtain ⟨am, em1, em2, em3⟩ := many_eats (entry_eats (eats n)) hm gl
  have lk : k ≤ bs.length := by
    have h1 := congrArg List.length hd
    have h2 := congrArg List.length em1
    rw [List.length_drop] at h1
    rw [List.length_append] at h2
    omega
  refine ⟨_, rfl, _, rfl, _, _, _, rfl, p, bs, i, 4, rfl, rfl, rfl, hp, by omega, by decide, ?_⟩
  rw [en]
  refine ⟨_, rfl, _, _, rfl, rfl, lineOf (by show 0 ≤ 1000; decide), fun D nD => ?_⟩
  have sD := same_new (o := .lst []) nD
  refine ⟨_, rfl, _, rfl, by omega, by omega, ?_⟩
  refine for_range (fun j σ H1 => Same H H1 ∧ ∃ l1 l2 xs t o4 o5 o6, H1 D = some (.lst xs) ∧ l = l1 ++ l2 ∧ l1.length = j ∧ xs.length = j ∧ RWire.readMany (RWire.readEntry (RWire.readF n)) (k - j) t = some (l2, r) ∧ bs.drop (bs.length - t.length) = t ∧ (∀ B, Same B H → VEnts K (offD B D H1) l1 xs) ∧
      σ = [some (.ref p), some (natV (bs.length - t.length)), some (natV k), some (.ref D), o4, o5, o6]) ⟨sD, [], l, [], r0, none, none, none, upd_same, rfl, rfl, rfl, hm, ?_, fun B sB => rfl, ?_⟩ ?_ ?_
  · rw [← pl1]
    exact hd
  · rw [← pl1]
    rfl
  · rintro j σ H1 hj ⟨s1, l1, l2, xs, t, o4, o5, o6, hD, el, ll, lx, ht, hdt, hv, rfl⟩
    have hj' : j < k := by simpa using hj
    rw [show k - j = k - (j + 1) + 1 by omega] at ht
    obtain ⟨e, t2, l3, f1, f2, f3⟩ := many_step ht
    have gv : goodV e.2 := gl e (by rw [el, f3]; simp)
    obtain ⟨t1, g1, g2⟩ := entry_step f1
    obtain ⟨b4, d1, d2, d3⟩ := readText_app g1
    have hdt' := hdt
    rw [d1, ← List.append_assoc] at hdt'
    have h3 := drop_of hdt'
    have h4 := place_of hdt' (.inl (by rw [List.length_append]; omega))
    refine ⟨_, rfl, _, rfl, _, _, rfl, p, bs, bs.length - t.length, e.1, t1, rfl, rfl, s1 _ _ hp, by rw [hdt]; exact g1, small, fun H2 a nt s2 na2 nn ha hnt => ?_⟩
    refine ⟨a, _, rfl, SqT.of ha, rfl, _, _, rfl, _, _, rfl, rfl, ?_⟩
    have hd1 : bs.drop (bs.length - t1.length) = t1 := by
      rw [← h4.1]
      exact h3
    refine ⟨_, rfl, _, rfl, _, _, rfl, p, bs, bs.length - t1.length, e.2, t2, rfl, rfl, s2 _ _ (s1 _ _ hp), small, by rw [hd1]; exact g2, gv, fun H3 a3 x s3 ha3 hx => ?_⟩
    refine ⟨a3, _, rfl, SqT.of ha3, rfl, _, _, rfl, _, _, rfl, rfl, ?_⟩
    have hD3 := s3 _ _ (s2 _ _ hD)
    refine ⟨_, rfl, .inl ⟨rfl, _, SqL.of hD3⟩, _, rfl, _, rfl, lineOf (by show 2 ≤ 1000; decide), fun m nm => ?_⟩
    have sm := same_new (o := .tup [.ref nt, x]) nm
    refine ⟨D, _, _, rfl, rfl, sm _ _ hD3, lt_line (by omega), same_at nD (s1.trans (s2.trans (s3.trans sm))), l1 ++ [e], l3, xs ++ [.ref m], t2, _, _, _, upd_same, by rw [el, f3]; simp, by simp [ll], by simp [lx], f2, ?_, fun B sB => ?_, rfl⟩
    · obtain ⟨b, e5, e6⟩ := eats n t1 e.2 t2 g2 gv
      rw [e5] at hd1
      have h3 := drop_of hd1
      have h4 := place_of hd1 (.inl e6)
      rw [← e5] at h3 h4
      rw [← h4.1]
      exact h3
    · rw [offD_upd]
      have h1 := hx _ (with_same sB (s1.trans s2) (s2 _ _ hD))
      rw [off_with] at h1
      have key : ∀ {b : Addr} {o : HO} {Hx Hy : Hp}, Same H Hx → Hx b = none → D ≠ b → Hy b = some o → offD B D Hy b = some o := fun sx nb ne hb => by
        unfold offD
        rw [if_neg (Ne.symm ne)]
        exact off_new (sB.trans sx) nb hb
      refine VEnts.snoc (t := m) (n := nt) (y := x) (key (s1.trans (s2.trans s3)) nm (fun z => by rw [← z, hD3] at nm; cases nm) upd_same) (key s1 nn (fun z => by rw [← z, hD] at nn; cases nn) (sm _ _ (s3 _ _ hnt))) (VAt.up (offD_same sm) _ _ h1) (VEnts.up (offD_same (s2.trans (s3.trans sm))) _ _ (hv B sB))
  · rintro σ H1 ⟨s1, l1, l2, xs, t, o4, o5, o6, hD, el, ll, lx, ht, hdt, hv, rfl⟩
    rw [Int.toNat_natCast, Nat.sub_self] at ht
    cases ht
    rw [List.append_nil] at el
    subst el
    refine ⟨_, rfl, _, rfl, lineOf (by show 2 ≤ 1000; decide), fun a na => ?_⟩
    have sa := same_new (o := .tup [.ref D, natV (bs.length - r.length)]) na
    exact q _ a D xs (s1.trans sa) upd_same nD (sa _ _ hD) fun B sB => VEnts.up ((offD_off).trans (off_same sa)) _ _ (hv B sB)
end
end CT


namespace CT
open PySem PySem.Spec PyProof.Rows L2
theorem r_isI {o : Option (Option V)} {s t : Int} {A B : Prop} (e : o = some (some (V.int s))) (h : decide (V.int s = V.int t) = true) (q : A) : ∃ v, o = some (some v) ∧ scal v (V.int t) = true ∧ ∃ k, V.bl (decide (v = V.int t)) = V.bl k ∧ if k = true then A else B := ⟨_, e, rfl, _, rfl, if_t h q⟩
theorem r_noI {o : Option (Option V)} {s t : Int} {A B : Prop} (e : o = some (some (V.int s))) (h : decide (V.int s = V.int t) = false) (q : B) : ∃ v, o = some (some v) ∧ scal v (V.int t) = true ∧ ∃ k, V.bl (decide (v = V.int t)) = V.bl k ∧ if k = true then A else B := ⟨_, e, rfl, _, rfl, if_f h q⟩
section
variable {P : Program} {w : World} {K : PySem.W.Frag} {mg : PySem.Str → Option Value} {base : Heap}
abbrev n_value_at : List PySem.Str := ["octets", "place", "kind", "held", "rows", "members"]
theorem sc_value_at : FnScope n_value_at ["octets", "place"] d_value_at.scope := ⟨rfl, rfl, rfl, by decide +kernel, rfl, by decide +kernel, by decide +kernel⟩
theorem c_value_at_succ (T : Tx w K mg) {n : Nat} (cl : Cal CX0 P w K mg base (2 * n + 7) "list_at" (spListAt K n)) (cm : Cal CX0 P w K mg base (2 * n + 7) "members_at" (spMembersAt K n)) : Cal (CX0) P w K mg base (2 * n + 7 + 1) "value_at" (spValueAt K (n + 1)) := by
  refine cal_mk T.fd_value_at T.g_value_at sc_value_at (fun _ _ _ _ _ _ us hl => match us, hl with | [_, _], _ => rfl) (fun _ _ _ _ h => sp2_len h) (fun f cdv A outer s H vs Q E hr h => ?_)
  obtain ⟨_, _, rfl, p, bs, i, v, r, rfl, rfl, hp, small, hrd, gv, q⟩ := h
  refine ⟨_, PSs.nox ((pss_cons (ps_set (i := 2) sc_value_at.nd rfl (Or.inl rfl) (pe_ix ix_list (pv 0) (pv 1) (fun _ _ => rfl)))
      (pss_cons (ps_aug (i := 1) sc_value_at.nd rfl (Or.inl rfl) pe_int ip_add)
      (pss_cons (ps_if (pt_cmpR op_eq (pv 2) (pe_gi T.i_INTEGER rfl) (nomark _)) (pss_one (ps_ret (pe_tup (pa_cons (pe_new (new_Value T) hr (by omega) rfl (pa_cons (pe_gi T.i_INTEGER rfl) (pa_cons (pe_cal (c_integer_at T) hr (by omega) rfl passC (pa_cons (pv 0) (pa_cons (pv 1) pa_nil))) pa_nil))) (pa_cons (pe_op op_add (pv 1) pe_int) pa_nil))))) pss_nil)
      (pss_cons (ps_if (pt_cmpR op_eq (pv 2) (pe_gi T.i_TEXT rfl) (nomark _)) (pss_cons (ps_asg (pe_cal (c_text_at T) hr (by omega) rfl passC (pa_cons (pv 0) (pa_cons (pv 1) pa_nil))) (pg_tup rfl (pgs_cons (pg_name (i := 3) sc_value_at.nd rfl (Or.inl rfl)) (pgs_cons (pg_name (i := 1) sc_value_at.nd rfl (Or.inl rfl)) pgs_nil))))
      (pss_one (ps_ret (pe_tup (pa_cons (pe_new (new_Value T) hr (by omega) rfl (pa_cons (pe_gi T.i_TEXT rfl) (pa_cons (pv 3) pa_nil))) (pa_cons (pv 1) pa_nil)))))) pss_nil)
      (pss_cons (ps_if (pt_cmpR op_eq (pv 2) (pe_gi T.i_LIST rfl) (nomark _)) (pss_cons (ps_asg (pe_cal cl hr (by omega) rfl passC (pa_cons (pv 0) (pa_cons (pv 1) pa_nil))) (pg_tup rfl (pgs_cons (pg_name (i := 4) sc_value_at.nd rfl (Or.inl rfl)) (pgs_cons (pg_name (i := 1) sc_value_at.nd rfl (Or.inl rfl)) pgs_nil))))
      (pss_one (ps_ret (pe_tup (pa_cons (pe_new (new_Value T) hr (by omega) rfl (pa_cons (pe_gi T.i_LIST rfl) (pa_cons (pv 4) pa_nil))) (pa_cons (pv 1) pa_nil)))))) pss_nil)
      (pss_cons (ps_if (pt_cmpR op_eq (pv 2) (pe_gi T.i_RECORD rfl) (nomark _)) (pss_cons (ps_asg (pe_cal cm hr (by omega) rfl passC (pa_cons (pv 0) (pa_cons (pv 1) pa_nil))) (pg_tup rfl (pgs_cons (pg_name (i := 5) sc_value_at.nd rfl (Or.inl rfl)) (pgs_cons (pg_name (i := 1) sc_value_at.nd rfl (Or.inl rfl)) pgs_nil))))
      (pss_one (ps_ret (pe_tup (pa_cons (pe_new (new_Value T) hr (by omega) rfl (pa_cons (pe_gi T.i_RECORD rfl) (pa_cons (pv 5) pa_nil))) (pa_cons (pv 1) pa_nil)))))) pss_nil)
      (pss_one (ps_ret (pe_tup (pa_cons (pe_new (new_Value T) hr (by omega) rfl (pa_cons (pv 2) (pa_cons pe_int pa_nil))) (pa_cons (pv 1) pa_nil)))))))))))), ?_⟩
  cases ed : bs.drop i with
  | nil => rw [ed] at hrd; cases hrd
  | cons k0 t =>
  rw [ed] at hrd
  have hk : RK (RWire.readF n) k0.toNat t v r := rk_of hrd gv
  have ed1 : bs.drop i = [k0] ++ t := ed
  have hd := drop_of ed1
  obtain ⟨pl1, pl2⟩ := place_of ed1 (.inl (by simp))
  have gk : bs[i]? = some k0 := by
    have := congrArg (fun l => l[0]?) ed
    simpa using this
  simp only [List.length_singleton] at hd pl1 pl2
  have fin : ∀ H' a y, Same H H' → H' a = some (.tup [y, natV (bs.length - r.length)]) → (∀ B, Same B H → VAt K (off B H') v y) → Q (.ref a) H' := q
  have plus : V.int ((i : Int) + 1) = natV (i + 1) := rfl
  refine ⟨_, rfl, _, rfl, r_at (SqL.of hp) (octV_get gk) ⟨_, rfl, _, _, rfl, rfl, ?_⟩⟩
  generalize ek : k0.toNat = kn at hk
  cases hk with
  | nothing =>
    refine r_noI rfl ?_ ?_
    · kernel_rfl
    refine r_noI rfl ?_ ?_
    · kernel_rfl
    refine r_noI rfl ?_ ?_
    · kernel_rfl
    refine r_noI rfl ?_ ?_
    · kernel_rfl
    skip
    refine ⟨_, rfl, _, _, rfl, _, rfl, fun H1 b dx s1 n1 h1 => ⟨_, rfl, lineOf (by show 2 ≤ 1000; decide), fun a na => ?_⟩⟩
    have sa := same_new (o := .tup [.ref b, natV (i + 1)]) na
    exact fin _ a (.ref b) (s1.trans sa) (by rw [← pl1]; exact upd_same) fun B sB => vis_new sB n1 (sa _ _ h1)
  | null =>
    refine r_noI rfl ?_ ?_
    · kernel_rfl
    refine r_noI rfl ?_ ?_
    · kernel_rfl
    refine r_noI rfl ?_ ?_
    · kernel_rfl
    refine r_noI rfl ?_ ?_
    · kernel_rfl
    skip
    refine ⟨_, rfl, _, _, rfl, _, rfl, fun H1 b dx s1 n1 h1 => ⟨_, rfl, lineOf (by show 2 ≤ 1000; decide), fun a na => ?_⟩⟩
    have sa := same_new (o := .tup [.ref b, natV (i + 1)]) na
    exact fin _ a (.ref b) (s1.trans sa) (by rw [← pl1]; exact upd_same) fun B sB => vis_new sB n1 (sa _ _ h1)
  | no =>
    refine r_noI rfl ?_ ?_
    · kernel_rfl
    refine r_noI rfl ?_ ?_
    · kernel_rfl
    refine r_noI rfl ?_ ?_
    · kernel_rfl
    refine r_noI rfl ?_ ?_
    · kernel_rfl
    skip
    refine ⟨_, rfl, _, _, rfl, _, rfl, fun H1 b dx s1 n1 h1 => ⟨_, rfl, lineOf (by show 2 ≤ 1000; decide), fun a na => ?_⟩⟩
    have sa := same_new (o := .tup [.ref b, natV (i + 1)]) na
    exact fin _ a (.ref b) (s1.trans sa) (by rw [← pl1]; exact upd_same) fun B sB => vis_new sB n1 (sa _ _ h1)
  | yes =>
    refine r_noI rfl ?_ ?_
    · kernel_rfl
    refine r_noI rfl ?_ ?_
    · kernel_rfl
    refine r_noI rfl ?_ ?_
    · kernel_rfl
    refine r_noI rfl ?_ ?_
    · kernel_rfl
    skip
    refine ⟨_, rfl, _, _, rfl, _, rfl, fun H1 b dx s1 n1 h1 => ⟨_, rfl, lineOf (by show 2 ≤ 1000; decide), fun a na => ?_⟩⟩
    have sa := same_new (o := .tup [.ref b, natV (i + 1)]) na
    exact fin _ a (.ref b) (s1.trans sa) (by rw [← pl1]; exact upd_same) fun B sB => vis_new sB n1 (sa _ _ h1)
  | int h8 =>
    refine r_isI rfl ?_ ?_
    · kernel_rfl
    obtain ⟨a8, e1, e2, e3⟩ := readNum_app h8
    rw [e1] at hd
    obtain ⟨pm1, pm2⟩ := place_of hd (.inr pl2)
    rw [e2] at pm1 pm2
    have en : RWire.numOf ((bs.drop (i + 1)).take 8) = RWire.numOf a8 := by
      rw [hd, List.take_append_of_le_length (by omega), ← e2, List.take_length]
    rw [e3] at fin
    refine ⟨_, rfl, _, rfl, _, _, rfl, p, bs, i + 1, rfl, rfl, hp, by omega, ?_⟩
    rw [en]
    refine ⟨_, _, rfl, 4, rfl, fun H1 b dx s1 n1 h1 => ⟨_, rfl, _, _, rfl, rfl, lineOf (by show 2 ≤ 1000; decide), fun a na => ?_⟩⟩
    have sa := same_new (o := .tup [.ref b, natV (i + 1 + 8)]) na
    exact fin _ a (.ref b) (s1.trans sa) (by rw [← pm1]; exact upd_same) fun B sB => vis_new sB n1 (sa _ _ h1)
  | @text t u r ht =>
    refine r_noI rfl ?_ ?_
    · kernel_rfl
    refine r_isI rfl ?_ ?_
    · kernel_rfl
    rw [← hd] at ht
    have small' := small
    refine ⟨_, rfl, _, rfl, _, _, rfl, p, bs, i + 1, u, r, rfl, rfl, hp, ht, small, fun H1 a1 t1 s1 na1 nt1 h1 ht1 => ?_⟩
    refine ⟨a1, _, rfl, SqT.of h1, rfl, _, _, rfl, _, _, rfl, rfl, ?_⟩
    refine ⟨_, rfl, _, _, rfl, 6, rfl, fun H2 b dx s2 n2 h2 => ⟨_, rfl, lineOf (by show 2 ≤ 1000; decide), fun a na => ?_⟩⟩
    have sa := same_new (o := .tup [.ref b, natV (bs.length - r.length)]) na
    exact fin _ a (.ref b) (s1.trans (s2.trans sa)) upd_same fun B sB => ⟨t1, vis_new (sB.trans s1) n2 (sa _ _ h2), off_new sB nt1 (sa _ _ (s2 _ _ ht1))⟩
  | @list t kk r0 l r h4 hm gl =>
    refine r_noI rfl ?_ ?_
    · kernel_rfl
    refine r_noI rfl ?_ ?_
    · kernel_rfl
    refine r_isI rfl ?_ ?_
    · kernel_rfl
    rw [← hd] at h4
    refine ⟨_, rfl, _, rfl, _, _, rfl, p, bs, i + 1, kk, r0, l, r, rfl, rfl, hp, small, pl2, h4, hm, gl, fun H1 a1 c xs s1 h1 nc hc hv => ?_⟩
    refine ⟨a1, _, rfl, SqT.of h1, rfl, _, _, rfl, _, _, rfl, rfl, ?_⟩
    refine ⟨_, rfl, _, _, rfl, 7, rfl, fun H2 b dx s2 n2 h2 => ⟨_, rfl, lineOf (by show 2 ≤ 1000; decide), fun a na => ?_⟩⟩
    have sa := same_new (o := .tup [.ref b, natV (bs.length - r.length)]) na
    exact fin _ a (.ref b) (s1.trans (s2.trans sa)) upd_same fun B sB => ⟨c, xs, vis_new (sB.trans s1) n2 (sa _ _ h2), off_new sB nc (sa _ _ (s2 _ _ hc)), VMany.up (off_same (s2.trans sa)) _ _ (hv B sB)⟩
  | @record t kk r0 l r h4 hm gl =>
    refine r_noI rfl ?_ ?_
    · kernel_rfl
    refine r_noI rfl ?_ ?_
    · kernel_rfl
    refine r_noI rfl ?_ ?_
    · kernel_rfl
    refine r_isI rfl ?_ ?_
    · kernel_rfl
    rw [← hd] at h4
    refine ⟨_, rfl, _, rfl, _, _, rfl, p, bs, i + 1, kk, r0, l, r, rfl, rfl, hp, small, pl2, h4, hm, gl, fun H1 a1 c xs s1 h1 nc hc hv => ?_⟩
    refine ⟨a1, _, rfl, SqT.of h1, rfl, _, _, rfl, _, _, rfl, rfl, ?_⟩
    refine ⟨_, rfl, _, _, rfl, 8, rfl, fun H2 b dx s2 n2 h2 => ⟨_, rfl, lineOf (by show 2 ≤ 1000; decide), fun a na => ?_⟩⟩
    have sa := same_new (o := .tup [.ref b, natV (bs.length - r.length)]) na
    exact fin _ a (.ref b) (s1.trans (s2.trans sa)) upd_same fun B sB => ⟨c, xs, vis_new (sB.trans s1) n2 (sa _ _ h2), off_new sB nc (sa _ _ (s2 _ _ hc)), VEnts.up (off_same (s2.trans sa)) _ _ (hv B sB)⟩
end
end CT


namespace CT
open PySem PySem.Spec PyProof.Rows L2
section
variable {P : Program} {w : World} {K : PySem.W.Frag} {mg : PySem.Str → Option Value} {base : Heap}
theorem c_value_at_zero (T : Tx w K mg) : Cal CX0 P w K mg base 6 "value_at" (spValueAt K 0) := by
  refine cal_mk T.fd_value_at T.g_value_at sc_value_at (fun _ _ _ _ _ _ us hl => match us, hl with | [_, _], _ => rfl) (fun _ _ _ _ h => sp2_len h) (fun f cdv A outer s H vs Q E hr h => ?_)
  obtain ⟨_, _, rfl, p, bs, i, v, r, rfl, rfl, hp, small, hrd, gv, q⟩ := h
  cases hrd
theorem c_value_at (T : Tx w K mg) : ∀ n : Nat, Cal CX0 P w K mg base (2 * n + 6) "value_at" (spValueAt K n)
  | 0 => c_value_at_zero T
  | n + 1 => c_value_at_succ T (c_list_at_of T (c_value_at T n)) (c_members_at_of T (c_value_at T n))
def spRequestOf (K : PySem.W.Frag) : Sp := sp1 fun x H Q _ => ∃ p bs d l, x = .ref p ∧ H p = some (.lst (octV bs)) ∧ bs.length < 1000000 ∧ RWire.readRequest bs = some (d, l) ∧ goodL l ∧
  ∀ H' a c xs, Same H H' → H' a = some (.tup [natV d, .ref c]) → H c = none → H' c = some (.lst xs) → (∀ B, Same B H → VMany K (off B H') l xs) → Q (.ref a) H'
abbrev n_request_of : List PySem.Str := ["octets", "found", "place", "turn", "value"]
theorem sc_request_of : FnScope n_request_of ["octets"] d_request_of.scope := ⟨rfl, rfl, rfl, by decide +kernel, rfl, by decide +kernel, by decide +kernel⟩
theorem c_request_of (T : Tx w K mg) : Cal (CX0) P w K mg base 71 "request_of" (spRequestOf K) := by
  refine cal_mk T.fd_request_of T.g_request_of sc_request_of (fun _ _ _ _ _ _ us hl => match us, hl with | [_], _ => rfl) (fun _ _ _ _ h => sp1_len h) (fun f cdv A outer s H vs Q E hr h => ?_)
  obtain ⟨_, rfl, p, bs, d, l, rfl, hp, small, hrq, gl, q⟩ := h
  refine ⟨_, PSs.nox ((pss_cons (ps_set (i := 1) sc_request_of.nd rfl (Or.inl rfl) (pe_lst pa_nil))
      (pss_cons (ps_set (i := 2) sc_request_of.nd rfl (Or.inl rfl) pe_int)
      (pss_cons (ps_for PassesOwn.never rfl (pi_range1 rfl T.f_range (pa_cons (pe_ix ix_list (pv 0) pe_int (fun _ _ => rfl)) pa_nil)) (pg_name (i := 3) sc_request_of.nd rfl (Or.inl rfl)) (pss_cons (ps_asg (pe_cal (c_value_at T 32) hr (by decide) rfl passC (pa_cons (pv 0) (pa_cons (pv 2) pa_nil))) (pg_tup rfl (pgs_cons (pg_name (i := 4) sc_request_of.nd rfl (Or.inl rfl)) (pgs_cons (pg_name (i := 2) sc_request_of.nd rfl (Or.inl rfl)) pgs_nil))))
      (pss_one (ps_expr (pe_bm PySem.F.plainAttrs_list PySem.F.slot_list_append PySem.F.type_list_append mt_append (pv 1) (pa_cons (pv 4) pa_nil))))))
      (pss_one (ps_ret (pe_tup (pa_cons (pe_cal (c_number_at T) hr (by decide) rfl passC (pa_cons (pv 0) (pa_cons pe_int (pa_cons pe_int pa_nil)))) (pa_cons (pv 1) pa_nil))))))))), ?_⟩
  obtain ⟨o0, o1, o2, r0, eb, hm, ed⟩ : ∃ o0 o1 o2 r0, bs = o0 :: o1 :: o2 :: r0 ∧ RWire.readMany (RWire.readF 32) o2.toNat r0 = some (l, []) ∧ d = o0.toNat + 256 * o1.toNat := by
    unfold RWire.readRequest at hrq
    split at hrq
    · rename_i a b n r
      unfold RWire.readArgs at hrq
      split at hrq
      · cases hrq
      · rename_i l' e
        split at e
        · rename_i l2 e2
          cases e
          cases hrq
          exact ⟨a, b, n, r, rfl, e2, rfl⟩
        · cases e
    · cases hrq
  have hd : bs.drop 3 = r0 := by rw [eb]; rfl
  have lb : bs.length = r0.length + 3 := by rw [eb]; simp
  have g2 : bs[2]? = some o2 := by rw [eb]; rfl
  have lk : o2.toNat < 256 := o2.toNat_lt
  refine ⟨lineOf (by show 0 ≤ 1000; decide), fun D nD => ?_⟩
  have sD := same_new (o := .lst []) nD
  refine ⟨_, rfl, r_atE (i := 2) (SqL.of (sD _ _ hp)) rfl (octV_get g2) ⟨_, rfl, by omega, by omega, ?_⟩⟩
  refine for_range (fun j σ H1 => Same H H1 ∧ ∃ l1 l2 xs t o4 o5, H1 D = some (.lst xs) ∧ l = l1 ++ l2 ∧ l1.length = j ∧ xs.length = j ∧ RWire.readMany (RWire.readF 32) (o2.toNat - j) t = some (l2, []) ∧ bs.drop (bs.length - t.length) = t ∧ (∀ B, Same B H → VMany K (offD B D H1) l1 xs) ∧
      σ = [some (.ref p), some (.ref D), some (natV (bs.length - t.length)), o4, o5]) ⟨sD, [], l, [], r0, none, none, upd_same, rfl, rfl, rfl, hm, ?_, fun B sB => rfl, ?_⟩ ?_ ?_
  · rw [lb, show r0.length + 3 - r0.length = 3 by omega]
    exact hd
  · rw [lb, show r0.length + 3 - r0.length = 3 by omega]
    rfl
  · rintro j σ H1 hj ⟨s1, l1, l2, xs, t, o4, o5, hD, el, ll, lx, ht, hdt, hv, rfl⟩
    have hj' : j < o2.toNat := by simpa using hj
    rw [show o2.toNat - j = o2.toNat - (j + 1) + 1 by omega] at ht
    obtain ⟨v, t2, l3, f1, f2, f3⟩ := many_step ht
    have gv : goodV v := gl v (by rw [el, f3]; simp)
    refine ⟨_, rfl, _, rfl, _, _, rfl, p, bs, bs.length - t.length, v, t2, rfl, rfl, s1 _ _ hp, small, by rw [hdt]; exact f1, gv, fun H2 a x s2 ha hx => ?_⟩
    refine ⟨a, _, rfl, SqT.of ha, rfl, _, _, rfl, _, _, rfl, rfl, ?_⟩
    have hD2 := s2 _ _ hD
    refine ⟨_, rfl, .inl ⟨rfl, _, SqL.of hD2⟩, _, rfl, D, _, _, rfl, rfl, hD2, lt_line (by omega), same_at nD (s1.trans s2), l1 ++ [v], l3, xs ++ [x], t2, _, _, upd_same, by rw [el, f3]; simp, by simp [ll], by simp [lx], f2, ?_, fun B sB => ?_, rfl⟩
    · obtain ⟨b, e5, e6⟩ := eats 32 t v t2 f1 gv
      rw [e5] at hdt
      have h3 := drop_of hdt
      have h4 := place_of hdt (.inl e6)
      rw [← e5] at h3 h4
      rw [← h4.1]
      exact h3
    · rw [offD_upd]
      have h1 := hx _ (with_same sB s1 hD)
      rw [off_with] at h1
      exact VMany.snoc h1 (VMany.up (offD_same s2) _ _ (hv B sB))
  · rintro σ H1 ⟨s1, l1, l2, xs, t, o4, o5, hD, el, ll, lx, ht, hdt, hv, rfl⟩
    rw [Int.toNat_natCast, Nat.sub_self] at ht
    cases ht
    rw [List.append_nil] at el
    subst el
    refine ⟨_, rfl, _, _, _, rfl, p, bs, 0, 2, rfl, rfl, rfl, s1 _ _ hp, by omega, by decide, _, rfl, lineOf (by show 2 ≤ 1000; decide), fun a na => ?_⟩
    have sa := same_new (o := .tup [natV d, .ref D]) na
    have en : RWire.numOf ((bs.drop 0).take 2) = d := by
      rw [eb, ed]
      show o0.toNat + 256 * (o1.toNat + 256 * 0) = _
      omega
    rw [en]
    exact q _ a D xs (s1.trans sa) upd_same nD (sa _ _ hD) fun B sB => VMany.up ((offD_off).trans (off_same sa)) _ _ (hv B sB)
end
end CT


namespace CT
open PySem PySem.Spec PyProof.Rows L2
/-! ### defs called in an except suite -/
structure CalH (P : Program) (w : World) (K : PySem.W.Frag) (mg : PySem.Str → Option Value) (base : Heap) (k : Nat) (x : PySem.Str) (sp : Sp) : Prop where
  ex : ∃ (fd : FuncData) (ps : List PySem.Str), L2H.FnH P w K mg base CX0 k (He.ga K x) fd ps sp ∧ mg x = some (.ref (He.ga K x)) ∧ PySem.W.keepIn K (.ref (He.ga K x)) = true ∧ Binds K fd ps []
section
variable {P : Program} {w : World} {K : PySem.W.Frag} {mg : PySem.Str → Option Value} {base : Heap}
theorem calH_mk {d : He.DefD} {x : PySem.Str} {N ps : List PySem.Str} {k : Nat} {sp : Sp} (hd : ∃ fd, FunD K d.name d.qual d.params d.body d.scope [] [] (He.ga K x) fd) (hm : mg x = some (.ref (He.ga K x))) (S : FnScope N ps d.scope)
    (hb : ∀ (kV doc pm : Value) (an : Option Addr) (cdv ct : Value) (us : List Value), us.length = ps.length → bindArgs (PySem.W.fnOf d.name d.qual d.params d.body d.scope .none kV doc pm an cdv ct) ⟨us, []⟩ = pure (ps.zip us))
    (len : ∀ vs H Q E, sp vs H Q E → vs.length = ps.length)
    (hbody : ∀ (f : Addr) (cdv : Value) (A : Around) (outer : List Env) (s : Shared) (H : Hp) (vs : List V) (Q : VK) (E : XK) (p : Addr × Obj), L2H.HotC (L2H.cxH CX0 P w K mg base N d.qual d.scope f cdv A outer s H E p) → L2H.RoomH k (A.deeper (envOfC d.qual d.scope s.heap.objs.size f cdv)) → sp vs H Q E →
      ∃ t, PSs (L2H.cxH CX0 P w K mg base N d.qual d.scope f cdv A outer s H E p) d.body t ∧ t { nx := fun _ H' => Q .non H', rt := Q } (start N vs) H) : CalH P w K mg base (k + 1) x sp := by
  obtain ⟨fd, F⟩ := hd
  have hB := F.bindsN hb
  obtain ⟨oc, od, dV, kV, doc, pm, an, cdv, ct, osl, rfl, lk, hcd, _, _⟩ := F.ex
  exact ⟨_, ps, L2H.fn_ofH lk hcd S len fun A outer s H vs Q E p hot hr hsp => hbody _ cdv A outer s H vs Q E p ⟨p, ⟨hot.1, hot.2⟩, List.mem_singleton.mpr rfl⟩ hr hsp, hm, F.kp, hB⟩
end
section
variable {X : Cx} {j k : Nat} {E : L2.St → XK} {x : PySem.Str} {sp : Sp} {p pos : Pos} {e : Expr} {es : List Expr} {t : TA}
theorem pe_calH (c : CalH X.prog X.w X.K X.mg X.base k x sp) (hr : L2H.RoomH j X.A) (hk : k ≤ j) (hc : L2H.HotC X) (hg : Gl X x) (hx : ∀ σ, PassesAt CX0 X σ (E σ)) (ha : PA X (e :: es) t)
    (hdb : (x == ("__debug__" : PySem.Str)) = false := by decide) (he : starEach (e :: es) X.env = (false, eval e X.env) :: starEach es X.env := by rfl) (hpl : (backTo pos (starEach es X.env)).any (·.1) = false := by rfl) :
    PE X (.Call (.Name x p) (e :: es) [] pos) (tCallS sp E t) := by
  obtain ⟨fd, ps, F, hm, hkp, hb⟩ := c.ex
  exact L2H.pe_callH F (hr.mono hk) hc hg hm hkp hb hx ha hdb he hpl
end
theorem low_len : ∀ k n : Nat, (RWire.low k n).length = k
  | 0, _ => rfl
  | k + 1, n => by
    show (RWire.low k (n / 256)).length + 1 = _
    rw [low_len k]
theorem low_succ : ∀ k n : Nat, RWire.low (k + 1) n = RWire.low k n ++ [UInt8.ofNat (n / 256 ^ k)]
  | 0, n => by
    rw [Nat.pow_zero, Nat.div_one]
    rfl
  | k + 1, n => by
    show UInt8.ofNat n :: RWire.low (k + 1) (n / 256) = UInt8.ofNat n :: (RWire.low k (n / 256) ++ _)
    rw [low_succ k (n / 256), Nat.div_div_eq_div_mul, Nat.pow_succ, Nat.mul_comm]
theorem octV_app {u v : List UInt8} : octV (u ++ v) = octV u ++ octV v := by
  unfold octV
  rw [List.map_append]
section
variable {P : Program} {w : World} {K : PySem.W.Frag} {mg : PySem.Str → Option Value} {base : Heap}
def spNumberOctets : Sp := sp2 fun x y H Q _ => ∃ n k : Nat, x = natV n ∧ y = natV k ∧ k ≤ 8 ∧ ∀ H' a, Same H H' → H a = none → H' a = some (.lst (octV (RWire.low k n))) → Q (.ref a) H'
abbrev n_number_octets : List PySem.Str := ["number", "many", "found", "left", "turn"]
theorem sc_number_octets : FnScope n_number_octets ["number", "many"] d_number_octets.scope := ⟨rfl, rfl, rfl, by decide +kernel, rfl, by decide +kernel, by decide +kernel⟩
theorem c_number_octets (T : Tx w K mg) : Cal (CX0) P w K mg base 1 "number_octets" (spNumberOctets) := by
  refine cal_mk T.fd_number_octets T.g_number_octets sc_number_octets (fun _ _ _ _ _ _ us hl => match us, hl with | [_, _], _ => rfl) (fun _ _ _ _ h => sp2_len h) (fun f cdv A outer s H vs Q E hr h => ?_)
  obtain ⟨_, _, rfl, n, k, rfl, rfl, hk, q⟩ := h
  refine ⟨_, PSs.nox ((pss_cons (ps_set (i := 2) sc_number_octets.nd rfl (Or.inl rfl) (pe_lst pa_nil))
      (pss_cons (ps_set (i := 3) sc_number_octets.nd rfl (Or.inl rfl) (pv 0))
      (pss_cons (ps_for PassesOwn.never rfl (pi_range1 rfl T.f_range (pa_cons (pv 1) pa_nil)) (pg_name (i := 4) sc_number_octets.nd rfl (Or.inl rfl)) (pss_cons (ps_expr (pe_bm PySem.F.plainAttrs_list PySem.F.slot_list_append PySem.F.type_list_append mt_append (pv 2) (pa_cons (pe_op op_mod (pv 3) pe_int) pa_nil)))
      (pss_one (ps_set (i := 3) sc_number_octets.nd rfl (Or.inl rfl) (pe_op op_fdiv (pv 3) pe_int)))))
      (pss_one (ps_ret (pv 2))))))), ?_⟩
  refine ⟨lineOf (by show 0 ≤ 1000; decide), fun D nD => ⟨_, rfl, _, rfl, _, rfl, by omega, by omega, ?_⟩⟩
  refine for_range (fun j σ H1 => Same H H1 ∧ H1 D = some (.lst (octV (RWire.low j n))) ∧ ∃ o4, σ = [some (natV n), some (natV k), some (.ref D), some (natV (n / 256 ^ j)), o4]) ⟨same_new nD, upd_same, none, by rw [Nat.pow_zero, Nat.div_one]; rfl⟩ ?_ ?_
  · rintro j σ H1 hj ⟨s1, hD, o4, rfl⟩
    have hj' : j < k := by simpa using hj
    have e1 : ((n / 256 ^ j : Nat) : Int) % 256 = ((UInt8.ofNat (n / 256 ^ j)).toNat : Int) := by
      rw [UInt8.toNat_ofNat']
      omega
    have e2 : ((n / 256 ^ j : Nat) : Int) / 256 = ((n / 256 ^ (j + 1) : Nat) : Int) := by
      rw [Nat.pow_succ, ← Nat.div_div_eq_div_mul]
      omega
    refine ⟨_, rfl, .inl ⟨rfl, _, SqL.of hD⟩, _, rfl, _, _, rfl, rfl, (by show (0 : Int) < 256; decide), D, _, _, rfl, rfl, hD, lt_line (by rw [octV_len, low_len]; omega), ?_⟩
    refine ⟨_, rfl, _, _, rfl, rfl, ⟨by decide, by decide⟩, same_at nD s1, ?_, some (V.int (0 + (j : Int))), ?_⟩
    · rw [upd_same, low_succ, octV_app]
      show some (HO.lst (_ ++ [V.int (((n / 256 ^ j : Nat) : Int) % 256)])) = _
      rw [e1]
      rfl
    · show [_, _, _, some (V.int (((n / 256 ^ j : Nat) : Int) / 256)), _] = _
      rw [e2]
  · rintro σ H1 ⟨s1, hD, o4, rfl⟩
    rw [Int.toNat_natCast] at hD
    exact ⟨_, rfl, q H1 D s1 nD hD⟩
theorem ch_number_octets (T : Tx w K mg) : CalH P w K mg base 1 "number_octets" (spNumberOctets) := by
  refine calH_mk T.fd_number_octets T.g_number_octets sc_number_octets (fun _ _ _ _ _ _ us hl => match us, hl with | [_, _], _ => rfl) (fun _ _ _ _ h => sp2_len h) (fun f cdv A outer s H vs Q E pin hcc hr h => ?_)
  obtain ⟨_, _, rfl, n, k, rfl, rfl, hk, q⟩ := h
  refine ⟨_, (pss_cons (ps_set (i := 2) sc_number_octets.nd rfl (Or.inl rfl) (pe_lst pa_nil))
      (pss_cons (ps_set (i := 3) sc_number_octets.nd rfl (Or.inl rfl) (pv 0))
      (pss_cons (L2H.ps_forH (passes_of rfl) hcc (L2H.pi_range1H rfl T.f_range (pa_cons (pv 1) pa_nil)) (pg_name (i := 4) sc_number_octets.nd rfl (Or.inl rfl)) (pss_cons (ps_expr (pe_bm PySem.F.plainAttrs_list PySem.F.slot_list_append PySem.F.type_list_append mt_append (pv 2) (pa_cons (pe_op op_mod (pv 3) pe_int) pa_nil)))
      (pss_one (ps_set (i := 3) sc_number_octets.nd rfl (Or.inl rfl) (pe_op op_fdiv (pv 3) pe_int)))))
      (pss_one (ps_ret (pv 2)))))), ?_⟩
  refine ⟨lineOf (by show 0 ≤ 1000; decide), fun D nD => ⟨_, rfl, _, rfl, _, rfl, by omega, by omega, ?_⟩⟩
  refine for_range (fun j σ H1 => Same H H1 ∧ H1 D = some (.lst (octV (RWire.low j n))) ∧ ∃ o4, σ = [some (natV n), some (natV k), some (.ref D), some (natV (n / 256 ^ j)), o4]) ⟨same_new nD, upd_same, none, by rw [Nat.pow_zero, Nat.div_one]; rfl⟩ ?_ ?_
  · rintro j σ H1 hj ⟨s1, hD, o4, rfl⟩
    have hj' : j < k := by simpa using hj
    have e1 : ((n / 256 ^ j : Nat) : Int) % 256 = ((UInt8.ofNat (n / 256 ^ j)).toNat : Int) := by
      rw [UInt8.toNat_ofNat']
      omega
    have e2 : ((n / 256 ^ j : Nat) : Int) / 256 = ((n / 256 ^ (j + 1) : Nat) : Int) := by
      rw [Nat.pow_succ, ← Nat.div_div_eq_div_mul]
      omega
    refine ⟨_, rfl, .inl ⟨rfl, _, SqL.of hD⟩, _, rfl, _, _, rfl, rfl, (by show (0 : Int) < 256; decide), D, _, _, rfl, rfl, hD, lt_line (by rw [octV_len, low_len]; omega), ?_⟩
    refine ⟨_, rfl, _, _, rfl, rfl, ⟨by decide, by decide⟩, same_at nD s1, ?_, some (V.int (0 + (j : Int))), ?_⟩
    · rw [upd_same, low_succ, octV_app]
      show some (HO.lst (_ ++ [V.int (((n / 256 ^ j : Nat) : Int) % 256)])) = _
      rw [e1]
      rfl
    · show [_, _, _, some (V.int (((n / 256 ^ j : Nat) : Int) / 256)), _] = _
      rw [e2]
  · rintro σ H1 ⟨s1, hD, o4, rfl⟩
    rw [Int.toNat_natCast] at hD
    exact ⟨_, rfl, q H1 D s1 nD hD⟩
def spCounted : Sp := sp1 fun x H Q _ => ∃ t u, x = .ref t ∧ H t = some (.tup (octV u)) ∧ u.length ≤ 1000000 ∧ ∀ H' a, Same H H' → H a = none → H' a = some (.lst (octV (RWire.writeText u))) → Q (.ref a) H'
abbrev n_counted : List PySem.Str := ["octets"]
theorem sc_counted : FnScope n_counted ["octets"] d_counted.scope := ⟨rfl, rfl, rfl, by decide +kernel, rfl, by decide +kernel, by decide +kernel⟩
theorem c_counted (T : Tx w K mg) : Cal (CX0) P w K mg base 2 "counted" (spCounted) := by
  refine cal_mk T.fd_counted T.g_counted sc_counted (fun _ _ _ _ _ _ us hl => match us, hl with | [_], _ => rfl) (fun _ _ _ _ h => sp1_len h) (fun f cdv A outer s H vs Q E hr h => ?_)
  obtain ⟨_, rfl, t, u, rfl, ht, small, q⟩ := h
  refine ⟨_, PSs.nox ((pss_one (ps_ret (pe_op op_cat (pe_cal (c_number_octets T) hr (by decide) rfl passC (pa_cons (pe_callB call_len_seq rfl T.f_len boot_len (pa_cons (pv 0) pa_nil)) (pa_cons pe_int pa_nil))) (pe_callTy call_list_of rfl T.f_list (by decide +kernel) (pa_cons (pv 0) pa_nil)))))), ?_⟩
  refine ⟨_, rfl, t, _, rfl, .inr (SqT.of ht), ?_⟩
  rw [octV_len]
  refine ⟨_, _, rfl, u.length, 4, rfl, rfl, by decide, fun H1 a s1 na ha => ⟨_, rfl, t, _, rfl, .inr (SqT.of (s1 _ _ ht)), fun l nl => ?_⟩⟩
  have sl := same_new (o := .lst (octV u)) nl
  refine ⟨a, l, _, _, rfl, rfl, sl _ _ ha, upd_same, ?_, fun p np => ?_⟩
  · rw [octV_len, octV_len, low_len, sizeLine_eq]
    omega
  · refine q _ p (s1.trans (sl.trans (same_new np))) (s1.free (sl.free np)) ?_
    rw [upd_same, ← octV_app]
    rfl
theorem ch_counted (T : Tx w K mg) : CalH P w K mg base 2 "counted" (spCounted) := by
  refine calH_mk T.fd_counted T.g_counted sc_counted (fun _ _ _ _ _ _ us hl => match us, hl with | [_], _ => rfl) (fun _ _ _ _ h => sp1_len h) (fun f cdv A outer s H vs Q E pin hcc hr h => ?_)
  obtain ⟨_, rfl, t, u, rfl, ht, small, q⟩ := h
  refine ⟨_, (pss_one (ps_ret (pe_op op_cat (pe_calH (ch_number_octets T) hr (by decide) hcc rfl passC (pa_cons (pe_callB call_len_seq rfl T.f_len boot_len (pa_cons (pv 0) pa_nil)) (pa_cons pe_int pa_nil))) (pe_callTy call_list_of rfl T.f_list (by decide +kernel) (pa_cons (pv 0) pa_nil))))), ?_⟩
  refine ⟨_, rfl, t, _, rfl, .inr (SqT.of ht), ?_⟩
  rw [octV_len]
  refine ⟨_, _, rfl, u.length, 4, rfl, rfl, by decide, fun H1 a s1 na ha => ⟨_, rfl, t, _, rfl, .inr (SqT.of (s1 _ _ ht)), fun l nl => ?_⟩⟩
  have sl := same_new (o := .lst (octV u)) nl
  refine ⟨a, l, _, _, rfl, rfl, sl _ _ ha, upd_same, ?_, fun p np => ?_⟩
  · rw [octV_len, octV_len, low_len, sizeLine_eq]
    omega
  · refine q _ p (s1.trans (sl.trans (same_new np))) (s1.free (sl.free np)) ?_
    rw [upd_same, ← octV_app]
    rfl
end
end CT


namespace CT
open PySem PySem.Spec PyProof.Rows L2
theorem writeMany_app : ∀ l m : List RWire.Value, RWire.writeMany (l ++ m) = RWire.writeMany l ++ RWire.writeMany m
  | [], m => rfl
  | v :: l, m => by
    show RWire.write v ++ RWire.writeMany (l ++ m) = _
    rw [writeMany_app l m, ← List.append_assoc]
    rfl
theorem writeEntries_app : ∀ l m : List (RWire.Text × RWire.Value), RWire.writeEntries (l ++ m) = RWire.writeEntries l ++ RWire.writeEntries m
  | [], m => rfl
  | v :: l, m => by
    show RWire.writeText v.1 ++ (RWire.write v.2 ++ RWire.writeEntries (l ++ m)) = _
    rw [writeEntries_app l m]
    show _ = (RWire.writeText v.1 ++ (RWire.write v.2 ++ RWire.writeEntries l)) ++ _
    simp only [List.append_assoc]
theorem writeMany_le (l : List RWire.Value) (j : Nat) : (RWire.writeMany (l.take j)).length ≤ (RWire.writeMany l).length := by
  have : RWire.writeMany l = RWire.writeMany (l.take j) ++ RWire.writeMany (l.drop j) := by rw [← writeMany_app, List.take_append_drop]
  rw [this, List.length_append]
  omega
theorem writeEntries_le (l : List (RWire.Text × RWire.Value)) (j : Nat) : (RWire.writeEntries (l.take j)).length ≤ (RWire.writeEntries l).length := by
  have : RWire.writeEntries l = RWire.writeEntries (l.take j) ++ RWire.writeEntries (l.drop j) := by rw [← writeEntries_app, List.take_append_drop]
  rw [this, List.length_append]
  omega
theorem depth_pos (v : RWire.Value) : 1 ≤ RWire.depth v := by cases v <;> simp [RWire.depth]
theorem depthMany_get : ∀ {l : List RWire.Value} {i : Nat} {v : RWire.Value}, l[i]? = some v → RWire.depth v ≤ RWire.depthMany l
  | [], i, v, h => by simp at h
  | u :: l, 0, v, h => by
    simp at h
    subst h
    exact Nat.le_max_left _ _
  | u :: l, i + 1, v, h => Nat.le_trans (depthMany_get (i := i) (by simpa using h)) (Nat.le_max_right _ _)
theorem depthEnts_get : ∀ {l : List (RWire.Text × RWire.Value)} {i : Nat} {e : RWire.Text × RWire.Value}, l[i]? = some e → RWire.depth e.2 ≤ RWire.depthEntries l
  | [], i, v, h => by simp at h
  | u :: l, 0, v, h => by
    simp at h
    subst h
    exact Nat.le_max_left _ _
  | u :: l, i + 1, v, h => Nat.le_trans (depthEnts_get (i := i) (by simpa using h)) (Nat.le_max_right _ _)
theorem fineMany_get : ∀ {l : List RWire.Value} {i : Nat} {v : RWire.Value}, RWire.fineMany l = true → l[i]? = some v → RWire.fine v = true
  | [], i, v, _, h => by simp at h
  | u :: l, 0, v, f, h => by
    simp at h
    subst h
    simp only [RWire.fineMany, Bool.and_eq_true] at f
    exact f.1
  | u :: l, i + 1, v, f, h => by
    simp only [RWire.fineMany, Bool.and_eq_true] at f
    exact fineMany_get (i := i) f.2 (by simpa using h)
theorem fineEnts_get : ∀ {l : List (RWire.Text × RWire.Value)} {i : Nat} {e : RWire.Text × RWire.Value}, RWire.fineEntries l = true → l[i]? = some e → RWire.fine e.2 = true
  | [], i, v, _, h => by simp at h
  | u :: l, 0, v, f, h => by
    simp at h
    subst h
    simp only [RWire.fineEntries, Bool.and_eq_true] at f
    exact f.2.1
  | u :: l, i + 1, v, f, h => by
    simp only [RWire.fineEntries, Bool.and_eq_true] at f
    exact fineEnts_get (i := i) f.2.2 (by simpa using h)
section
variable {P : Program} {w : World} {K : PySem.W.Frag} {mg : PySem.Str → Option Value} {base : Heap}
def spWritten (K : PySem.W.Frag) (n : Nat) : Sp := sp1 fun x H Q _ => ∃ F v, VAt K F v x ∧ Same F H ∧ RWire.fine v = true ∧ RWire.depth v ≤ n ∧ (RWire.write v).length ≤ 1000000 ∧ ∀ H' a, Same H H' → H a = none → H' a = some (.lst (octV (RWire.write v))) → Q (.ref a) H'
abbrev n_written : List PySem.Str := ["value", "found", "number", "element", "name", "member"]
theorem sc_written : FnScope n_written ["value"] d_written.scope := ⟨rfl, rfl, rfl, by decide +kernel, rfl, by decide +kernel, by decide +kernel⟩
theorem c_written_succ (T : Tx w K mg) {n : Nat} (cw : Cal CX0 P w K mg base (n + 4) "written" (spWritten K n)) : Cal (CX0) P w K mg base (n + 4 + 1) "written" (spWritten K (n + 1)) := by
  refine cal_mk T.fd_written T.g_written sc_written (fun _ _ _ _ _ _ us hl => match us, hl with | [_], _ => rfl) (fun _ _ _ _ h => sp1_len h) (fun f cdv A outer s H vs Q E hr h => ?_)
  obtain ⟨x, rfl, F, v, hv, sF, fv, dv, small, q⟩ := h
  refine ⟨_, PSs.nox ((pss_cons (ps_if (pt_cmpR op_eq (pe_fld (pv 0) rfl) (pe_gi T.i_INTEGER rfl) (nomark _)) (pss_cons (ps_set (i := 2) sc_written.nd rfl (Or.inl rfl) (pe_fld (pv 0) rfl))
      (pss_one (ps_ret (pe_op op_cat (pe_lst (pa_cons (pe_gi T.i_INTEGER rfl) pa_nil)) (pe_cal (c_number_octets T) hr (by omega) rfl passC (pa_cons (pe_ifExp (pt_cmpR op_lt (pv 2) pe_int (nomark _)) (pe_op op_add (pv 2) (pe_gi T.i_EIGHT rfl)) (pv 2)) (pa_cons pe_int pa_nil))))))) pss_nil)
      (pss_cons (ps_if (pt_cmpR op_eq (pe_fld (pv 0) rfl) (pe_gi T.i_TEXT rfl) (nomark _)) (pss_one (ps_ret (pe_op op_cat (pe_lst (pa_cons (pe_gi T.i_TEXT rfl) pa_nil)) (pe_cal (c_counted T) hr (by omega) rfl passC (pa_cons (pe_fld (pv 0) rfl) pa_nil))))) pss_nil)
      (pss_cons (ps_set (i := 1) sc_written.nd rfl (Or.inl rfl) (pe_lst (pa_cons (pe_fld (pv 0) rfl) pa_nil)))
      (pss_cons (ps_if (pt_cmpR op_eq (pe_fld (pv 0) rfl) (pe_gi T.i_LIST rfl) (nomark _)) (pss_cons (ps_expr (pe_bm PySem.F.plainAttrs_list PySem.F.slot_list_extend PySem.F.type_list_extend mt_extend (pv 1) (pa_cons (pe_cal (c_number_octets T) hr (by omega) rfl passC (pa_cons (pe_callB call_len_seq rfl T.f_len boot_len (pa_cons (pe_fld (pv 0) rfl) pa_nil)) (pa_cons pe_int pa_nil))) pa_nil)))
      (pss_one (ps_for PassesOwn.never rfl (pi_list (pe_fld (pv 0) rfl)) (pg_name (i := 3) sc_written.nd rfl (Or.inl rfl)) (pss_one (ps_expr (pe_bm PySem.F.plainAttrs_list PySem.F.slot_list_extend PySem.F.type_list_extend mt_extend (pv 1) (pa_cons (pe_cal cw hr (by omega) rfl passC (pa_cons (pv 3) pa_nil)) pa_nil))))))) pss_nil)
      (pss_cons (ps_if (pt_cmpR op_eq (pe_fld (pv 0) rfl) (pe_gi T.i_RECORD rfl) (nomark _)) (pss_cons (ps_expr (pe_bm PySem.F.plainAttrs_list PySem.F.slot_list_extend PySem.F.type_list_extend mt_extend (pv 1) (pa_cons (pe_cal (c_number_octets T) hr (by omega) rfl passC (pa_cons (pe_callB call_len_seq rfl T.f_len boot_len (pa_cons (pe_fld (pv 0) rfl) pa_nil)) (pa_cons pe_int pa_nil))) pa_nil)))
      (pss_one (ps_for PassesOwn.never rfl (pi_list (pe_fld (pv 0) rfl)) (pg_tup rfl (pgs_cons (pg_name (i := 4) sc_written.nd rfl (Or.inl rfl)) (pgs_cons (pg_name (i := 5) sc_written.nd rfl (Or.inl rfl)) pgs_nil))) (pss_one (ps_expr (pe_bm PySem.F.plainAttrs_list PySem.F.slot_list_extend PySem.F.type_list_extend mt_extend (pv 1) (pa_cons (pe_op op_cat (pe_cal (c_counted T) hr (by omega) rfl passC (pa_cons (pv 4) pa_nil)) (pe_cal cw hr (by omega) rfl passC (pa_cons (pv 5) pa_nil))) pa_nil))))))) pss_nil)
      (pss_one (ps_ret (pv 1))))))))), ?_⟩
  cases v with
  | nothing =>
    obtain ⟨a, dx, rfl, ha⟩ := hv
    have hA := sF _ _ ha
    refine ⟨_, rfl, r_fld hA T.c_Value T.n_Value_kind vF_kind ⟨rfl, _, rfl, if_f (by decide) ?_⟩⟩
    refine ⟨_, rfl, r_fld hA T.c_Value T.n_Value_kind vF_kind ⟨rfl, _, rfl, if_f (by decide) ?_⟩⟩
    refine ⟨_, rfl, r_fld hA T.c_Value T.n_Value_kind vF_kind ⟨lineOf (by show 1 ≤ 1000; decide), fun D nD => ?_⟩⟩
    have hA1 := same_new (o := .lst [V.int 0]) nD _ _ hA
    refine ⟨_, rfl, r_fld hA1 T.c_Value T.n_Value_kind vF_kind ⟨rfl, _, rfl, if_f (by decide) ?_⟩⟩
    refine ⟨_, rfl, r_fld hA1 T.c_Value T.n_Value_kind vF_kind ⟨rfl, _, rfl, if_f (by decide) ⟨_, rfl, q _ D (same_new nD) nD ?_⟩⟩⟩
    rw [upd_same]
    rfl
  | null =>
    obtain ⟨a, dx, rfl, ha⟩ := hv
    have hA := sF _ _ ha
    refine ⟨_, rfl, r_fld hA T.c_Value T.n_Value_kind vF_kind ⟨rfl, _, rfl, if_f (by decide) ?_⟩⟩
    refine ⟨_, rfl, r_fld hA T.c_Value T.n_Value_kind vF_kind ⟨rfl, _, rfl, if_f (by decide) ?_⟩⟩
    refine ⟨_, rfl, r_fld hA T.c_Value T.n_Value_kind vF_kind ⟨lineOf (by show 1 ≤ 1000; decide), fun D nD => ?_⟩⟩
    have hA1 := same_new (o := .lst [V.int 1]) nD _ _ hA
    refine ⟨_, rfl, r_fld hA1 T.c_Value T.n_Value_kind vF_kind ⟨rfl, _, rfl, if_f (by decide) ?_⟩⟩
    refine ⟨_, rfl, r_fld hA1 T.c_Value T.n_Value_kind vF_kind ⟨rfl, _, rfl, if_f (by decide) ⟨_, rfl, q _ D (same_new nD) nD ?_⟩⟩⟩
    rw [upd_same]
    rfl
  | bool b => cases b with
    | true =>
      obtain ⟨a, dx, rfl, ha⟩ := hv
      have hA := sF _ _ ha
      refine ⟨_, rfl, r_fld hA T.c_Value T.n_Value_kind vF_kind ⟨rfl, _, rfl, if_f (by decide) ?_⟩⟩
      refine ⟨_, rfl, r_fld hA T.c_Value T.n_Value_kind vF_kind ⟨rfl, _, rfl, if_f (by decide) ?_⟩⟩
      refine ⟨_, rfl, r_fld hA T.c_Value T.n_Value_kind vF_kind ⟨lineOf (by show 1 ≤ 1000; decide), fun D nD => ?_⟩⟩
      have hA1 := same_new (o := .lst [V.int 3]) nD _ _ hA
      refine ⟨_, rfl, r_fld hA1 T.c_Value T.n_Value_kind vF_kind ⟨rfl, _, rfl, if_f (by decide) ?_⟩⟩
      refine ⟨_, rfl, r_fld hA1 T.c_Value T.n_Value_kind vF_kind ⟨rfl, _, rfl, if_f (by decide) ⟨_, rfl, q _ D (same_new nD) nD ?_⟩⟩⟩
      rw [upd_same]
      rfl
    | false =>
      obtain ⟨a, dx, rfl, ha⟩ := hv
      have hA := sF _ _ ha
      refine ⟨_, rfl, r_fld hA T.c_Value T.n_Value_kind vF_kind ⟨rfl, _, rfl, if_f (by decide) ?_⟩⟩
      refine ⟨_, rfl, r_fld hA T.c_Value T.n_Value_kind vF_kind ⟨rfl, _, rfl, if_f (by decide) ?_⟩⟩
      refine ⟨_, rfl, r_fld hA T.c_Value T.n_Value_kind vF_kind ⟨lineOf (by show 1 ≤ 1000; decide), fun D nD => ?_⟩⟩
      have hA1 := same_new (o := .lst [V.int 2]) nD _ _ hA
      refine ⟨_, rfl, r_fld hA1 T.c_Value T.n_Value_kind vF_kind ⟨rfl, _, rfl, if_f (by decide) ?_⟩⟩
      refine ⟨_, rfl, r_fld hA1 T.c_Value T.n_Value_kind vF_kind ⟨rfl, _, rfl, if_f (by decide) ⟨_, rfl, q _ D (same_new nD) nD ?_⟩⟩⟩
      rw [upd_same]
      rfl
  | big i => exact hv.elim
  | octets u => exact hv.elim
  | wide u => exact hv.elim
  | int i =>
    obtain ⟨a, dx, rfl, ha⟩ := hv
    have hA := sF _ _ ha
    have li : i.natAbs ≤ 9007199254740991 := by simpa [RWire.fine, RWire.intMost] using fv
    refine ⟨_, rfl, r_fld hA T.c_Value T.n_Value_kind vF_kind ⟨rfl, _, rfl, if_t (by decide) ?_⟩⟩
    refine ⟨_, rfl, r_fld hA T.c_Value T.n_Value_held vF_held ?_⟩
    have fin : ∀ D D2 H1 H2, Same H H1 → H D = none → H1 D = some (.lst [.int 4]) → Same H1 H2 → H2 D2 = some (.lst (octV (RWire.low 8 (i % RWire.wordMost).toNat))) → rCat (.ref D) (.ref D2) H2 Q := fun D D2 H1 H2 s1 nD h1 s2 h2 => by
      refine ⟨D, D2, _, _, rfl, rfl, s2 _ _ h1, h2, ?_, fun p np => q _ p (s1.trans (s2.trans (same_new np))) (s1.free (s2.free np)) ?_⟩
      · rw [octV_len, low_len, sizeLine_eq]
        decide
      · rw [upd_same]
        rfl
    refine ⟨lineOf (by show 1 ≤ 1000; decide), fun D nD => ⟨_, rfl, _, _, rfl, rfl, _, rfl, ?_⟩⟩
    by_cases c : i < 0
    · have e : i + 18446744073709551616 = (((i % RWire.wordMost).toNat : Nat) : Int) := by
        unfold RWire.wordMost
        omega
      refine if_t (decide_eq_true c) ⟨_, rfl, _, _, rfl, rfl, _, _, rfl, (i % RWire.wordMost).toNat, 8, congrArg V.int e, rfl, by decide, fun H2 D2 s2 n2 h2 => ?_⟩
      exact fin D D2 _ H2 (same_new nD) nD upd_same s2 h2
    · have e : i = (((i % RWire.wordMost).toNat : Nat) : Int) := by
        unfold RWire.wordMost
        omega
      refine if_f (decide_eq_false c) ⟨_, rfl, _, _, rfl, (i % RWire.wordMost).toNat, 8, congrArg V.int e, rfl, by decide, fun H2 D2 s2 n2 h2 => ?_⟩
      exact fin D D2 _ H2 (same_new nD) nD upd_same s2 h2
  | text u =>
    obtain ⟨t, ⟨a, dx, rfl, ha⟩, ht⟩ := hv
    have hA := sF _ _ ha
    have lu : u.length ≤ 1000000 := by
      have : (RWire.write (.text u)).length = u.length + 5 := by
        show (6 :: (RWire.low 4 u.length ++ u)).length = _
        rw [List.length_cons, List.length_append, low_len]
        omega
      omega
    refine ⟨_, rfl, r_fld hA T.c_Value T.n_Value_kind vF_kind ⟨rfl, _, rfl, if_f (by decide) ?_⟩⟩
    refine ⟨_, rfl, r_fld hA T.c_Value T.n_Value_kind vF_kind ⟨rfl, _, rfl, if_t (by decide) ?_⟩⟩
    refine ⟨lineOf (by show 1 ≤ 1000; decide), fun D nD => ?_⟩
    have sD := same_new (o := .lst [V.int 6]) nD
    refine ⟨_, rfl, r_fld (sD _ _ hA) T.c_Value T.n_Value_held vF_held ⟨_, rfl, t, u, rfl, sD _ _ (sF _ _ ht), lu, fun H2 D2 s2 n2 h2 => ?_⟩⟩
    refine ⟨D, D2, _, _, rfl, rfl, s2 _ _ upd_same, h2, ?_, fun p np => q _ p (sD.trans (s2.trans (same_new np))) (sD.free (s2.free np)) ?_⟩
    · have : (RWire.writeText u).length = u.length + 4 := by
        show (RWire.low 4 u.length ++ u).length = _
        rw [List.length_append, low_len]
        omega
      rw [octV_len, this, sizeLine_eq]
      simp only [List.length_cons, List.length_nil]
      omega
    · rw [upd_same]
      rfl
  | list l =>
    obtain ⟨p, xs, ⟨a, dx, rfl, ha⟩, hp, hxs⟩ := hv
    have hA := sF _ _ ha
    have lx := hxs.len
    have wl : (RWire.write (.list l)).length = (RWire.writeMany l).length + 5 := by
      show (7 :: (RWire.low 4 l.length ++ RWire.writeMany l)).length = _
      rw [List.length_cons, List.length_append, low_len]
      omega
    refine ⟨_, rfl, r_fld hA T.c_Value T.n_Value_kind vF_kind ⟨rfl, _, rfl, if_f (by decide) ?_⟩⟩
    refine ⟨_, rfl, r_fld hA T.c_Value T.n_Value_kind vF_kind ⟨rfl, _, rfl, if_f (by decide) ?_⟩⟩
    refine ⟨_, rfl, r_fld hA T.c_Value T.n_Value_kind vF_kind ⟨lineOf (by show 1 ≤ 1000; decide), fun D nD => ?_⟩⟩
    have sD := same_new (o := .lst [V.int 7]) nD
    refine ⟨_, rfl, r_fld (sD _ _ hA) T.c_Value T.n_Value_kind vF_kind ⟨rfl, _, rfl, if_t (by decide) ?_⟩⟩
    refine ⟨_, rfl, .inl ⟨rfl, _, SqL.of upd_same⟩, _, rfl, r_fld (sD _ _ hA) T.c_Value T.n_Value_held vF_held ⟨p, _, rfl, .inl (SqL.of (sD _ _ (sF _ _ hp))), ?_⟩⟩
    rw [lx]
    refine ⟨_, _, rfl, l.length, 4, rfl, rfl, by decide, fun H2 D2 s2 n2 h2 => ⟨D, D2, _, _, rfl, rfl, s2 _ _ upd_same, h2, ?_, ?_⟩⟩
    · rw [octV_len, low_len, sizeLine_eq]
      decide
    have s3 := same_at (o := .lst ([V.int 7] ++ octV (RWire.low 4 l.length))) nD (sD.trans s2)
    refine ⟨_, rfl, r_fld (s3 _ _ hA) T.c_Value T.n_Value_held vF_held ⟨p, rfl, ⟨_, SqL.of (s3 _ _ (sF _ _ hp))⟩, for_list (fun j σ H4 => Same H H4 ∧ H4 D = some (.lst (octV (7 :: (RWire.low 4 l.length ++ RWire.writeMany (l.take j))))) ∧ ∃ o1 o3 o4 o5, σ = [some (.ref a), some (.ref D), o1, o3, o4, o5]) ⟨s3, ?_, _, _, _, _, rfl⟩ (fun j σ H4 _ h => SqL.of (h.1 _ _ (sF _ _ hp))) ?_ ?_⟩⟩
    · rw [upd_same]
      show some (HO.lst ([V.int 7] ++ octV (RWire.low 4 l.length))) = some (HO.lst (octV (7 :: (RWire.low 4 l.length ++ []))))
      rw [List.append_nil]
      rfl
    · rintro j y σ H4 hy ⟨s4, hD, o1, o3, o4, o5, rfl⟩
      obtain ⟨v, gv, hv⟩ := hxs.get hy
      have lw := writeMany_le l (j + 1)
      have ew : RWire.writeMany (l.take (j + 1)) = RWire.writeMany (l.take j) ++ RWire.write v := by
        rw [take_succ_get gv, writeMany_app]
        show _ ++ (RWire.write v ++ []) = _
        rw [List.append_nil]
      rw [ew, List.length_append] at lw
      have dl : RWire.depth (.list l) = RWire.depthMany l + 1 := rfl
      have dg := depthMany_get gv
      have fl : RWire.fineMany l = true := by
        simp only [RWire.fine, Bool.and_eq_true] at fv
        exact fv.2
      refine ⟨_, rfl, .inl ⟨rfl, _, SqL.of hD⟩, _, rfl, _, rfl, F, v, hv, sF.trans s4, fineMany_get fl gv, by omega, by omega, fun H5 D5 s5 n5 h5 => ⟨D, D5, _, _, rfl, rfl, s5 _ _ hD, h5, ?_, same_at nD (s4.trans s5), ?_, _, _, _, _, rfl⟩⟩
      · rw [octV_len, octV_len, sizeLine_eq, List.length_cons, List.length_append, low_len]
        omega
      · rw [upd_same, ew, ← octV_app]
        simp only [List.cons_append, List.append_assoc]
    · rintro σ H4 ⟨s4, hD, o1, o3, o4, o5, rfl⟩
      rw [lx, take_len] at hD
      exact ⟨_, rfl, r_fld (s4 _ _ hA) T.c_Value T.n_Value_kind vF_kind ⟨rfl, _, rfl, if_f (by decide) ⟨_, rfl, q H4 D s4 nD hD⟩⟩⟩
  | record l =>
    obtain ⟨p, xs, ⟨a, dx, rfl, ha⟩, hp, hxs⟩ := hv
    have hA := sF _ _ ha
    have lx := hxs.len
    have wl : (RWire.write (.record l)).length = (RWire.writeEntries l).length + 5 := by
      show (8 :: (RWire.low 4 l.length ++ RWire.writeEntries l)).length = _
      rw [List.length_cons, List.length_append, low_len]
      omega
    refine ⟨_, rfl, r_fld hA T.c_Value T.n_Value_kind vF_kind ⟨rfl, _, rfl, if_f (by decide) ?_⟩⟩
    refine ⟨_, rfl, r_fld hA T.c_Value T.n_Value_kind vF_kind ⟨rfl, _, rfl, if_f (by decide) ?_⟩⟩
    refine ⟨_, rfl, r_fld hA T.c_Value T.n_Value_kind vF_kind ⟨lineOf (by show 1 ≤ 1000; decide), fun D nD => ?_⟩⟩
    have sD := same_new (o := .lst [V.int 8]) nD
    refine ⟨_, rfl, r_fld (sD _ _ hA) T.c_Value T.n_Value_kind vF_kind ⟨rfl, _, rfl, if_f (by decide) ?_⟩⟩
    refine ⟨_, rfl, r_fld (sD _ _ hA) T.c_Value T.n_Value_kind vF_kind ⟨rfl, _, rfl, if_t (by decide) ?_⟩⟩
    refine ⟨_, rfl, .inl ⟨rfl, _, SqL.of upd_same⟩, _, rfl, r_fld (sD _ _ hA) T.c_Value T.n_Value_held vF_held ⟨p, _, rfl, .inl (SqL.of (sD _ _ (sF _ _ hp))), ?_⟩⟩
    rw [lx]
    refine ⟨_, _, rfl, l.length, 4, rfl, rfl, by decide, fun H2 D2 s2 n2 h2 => ⟨D, D2, _, _, rfl, rfl, s2 _ _ upd_same, h2, ?_, ?_⟩⟩
    · rw [octV_len, low_len, sizeLine_eq]
      decide
    have s3 := same_at (o := .lst ([V.int 8] ++ octV (RWire.low 4 l.length))) nD (sD.trans s2)
    refine ⟨_, rfl, r_fld (s3 _ _ hA) T.c_Value T.n_Value_held vF_held ⟨p, rfl, ⟨_, SqL.of (s3 _ _ (sF _ _ hp))⟩, for_list (fun j σ H4 => Same H H4 ∧ H4 D = some (.lst (octV (8 :: (RWire.low 4 l.length ++ RWire.writeEntries (l.take j))))) ∧ ∃ o1 o3 o4 o5, σ = [some (.ref a), some (.ref D), o1, o3, o4, o5]) ⟨s3, ?_, _, _, _, _, rfl⟩ (fun j σ H4 _ h => SqL.of (h.1 _ _ (sF _ _ hp))) ?_ ?_⟩⟩
    · rw [upd_same]
      show some (HO.lst ([V.int 8] ++ octV (RWire.low 4 l.length))) = some (HO.lst (octV (8 :: (RWire.low 4 l.length ++ []))))
      rw [List.append_nil]
      rfl
    · rintro j y σ H4 hy ⟨s4, hD, o1, o3, o4, o5, rfl⟩
      obtain ⟨e, t, nm, z, ge, rfl, ht, hn, hz⟩ := hxs.get hy
      have lw := writeEntries_le l (j + 1)
      have ew : RWire.writeEntries (l.take (j + 1)) = RWire.writeEntries (l.take j) ++ (RWire.writeText e.1 ++ RWire.write e.2) := by
        rw [take_succ_get ge, writeEntries_app]
        show _ ++ (RWire.writeText e.1 ++ (RWire.write e.2 ++ [])) = _
        rw [List.append_nil]
      rw [ew, List.length_append, List.length_append] at lw
      have lt : (RWire.writeText e.1).length = e.1.length + 4 := by
        show (RWire.low 4 e.1.length ++ e.1).length = _
        rw [List.length_append, low_len]
        omega
      have dl : RWire.depth (.record l) = RWire.depthEntries l + 1 := rfl
      have dg := depthEnts_get ge
      have fl : RWire.fineEntries l = true := by
        simp only [RWire.fine, Bool.and_eq_true] at fv
        exact fv.2.1
      refine ⟨t, _, rfl, SqT.of (s4 _ _ (sF _ _ ht)), rfl, _, _, rfl, _, _, rfl, rfl, ?_⟩
      refine ⟨_, rfl, .inl ⟨rfl, _, SqL.of hD⟩, _, rfl, _, rfl, nm, e.1, rfl, s4 _ _ (sF _ _ hn), by omega, fun H5 D5 s5 n5 h5 => ?_⟩
      refine ⟨_, rfl, _, rfl, F, e.2, hz, sF.trans (s4.trans s5), fineEnts_get fl ge, by omega, by omega, fun H6 D6 s6 n6 h6 => ⟨D5, D6, _, _, rfl, rfl, s6 _ _ h5, h6, ?_, fun D7 n7 => ?_⟩⟩
      · rw [octV_len, octV_len, sizeLine_eq]
        omega
      have s7 := same_new (o := .lst (octV (RWire.writeText e.1) ++ octV (RWire.write e.2))) n7
      refine ⟨D, D7, _, _, rfl, rfl, s7 _ _ (s6 _ _ (s5 _ _ hD)), upd_same, ?_, same_at nD (s4.trans (s5.trans (s6.trans s7))), ?_, _, _, _, _, rfl⟩
      · rw [List.length_append, octV_len, octV_len, octV_len, sizeLine_eq, List.length_cons, List.length_append, low_len]
        omega
      · rw [upd_same, ew, ← octV_app, ← octV_app]
        simp only [List.cons_append, List.append_assoc]
    · rintro σ H4 ⟨s4, hD, o1, o3, o4, o5, rfl⟩
      rw [lx, take_len] at hD
      exact ⟨_, rfl, q H4 D s4 nD hD⟩
theorem c_written_zero (T : Tx w K mg) : Cal CX0 P w K mg base 4 "written" (spWritten K 0) := by
  refine cal_mk T.fd_written T.g_written sc_written (fun _ _ _ _ _ _ us hl => match us, hl with | [_], _ => rfl) (fun _ _ _ _ h => sp1_len h) (fun f cdv A outer s H vs Q E hr h => ?_)
  obtain ⟨x, rfl, F, v, hv, sF, fv, dv, small, q⟩ := h
  have := depth_pos v
  exact absurd dv (by omega)
theorem c_written (T : Tx w K mg) : ∀ n : Nat, Cal CX0 P w K mg base (n + 4) "written" (spWritten K n)
  | 0 => c_written_zero T
  | n + 1 => c_written_succ T (c_written T n)
end
end CT


namespace CT
open PySem PySem.Spec PyProof.Rows L2
/-! ### the module's own error -/
abbrev cRef (K : PySem.W.Frag) : Addr := He.ga K "Refusal"
abbrev fRef (K : PySem.W.Frag) : Addr := He.ma K (He.ga K "Refusal") "__init__"
abbrev XN (P : Program) (w : World) : CXT := L2N.CX P w
theorem excB_ok {K : PySem.W.Frag} {C : Addr} (h : excB K C = true) : ∃ nm q N bs bm sn sub ab col dd k0 k1 k2 k3 k5, K.lookup C = some (excClassObj nm q C N bs bm true sn sub ab col dd k0 k1 k2 k3 k5 "ValueError.__new__") ∧ PySem.HandSPX.refsVE bm = true := by
  unfold excB at h
  split at h
  · rename_i T dd cd sl hl
    rw [Bool.and_eq_true] at h
    obtain ⟨h0, h⟩ := h
    have h0 := of_decide_eq_true h0
    subst h0
    split at h
    · rename_i C' bm k0 k1 k2 k3 n k5 hm hs
      simp only [Bool.and_eq_true, decide_eq_true_eq, Bool.not_eq_true'] at h
      obtain ⟨hC, hn, hd, hh, hb⟩ := h
      subst hC
      subst hn
      obtain ⟨nm, bs, mro, N, q, hD, sn, sub, ab, col, hdl⟩ := cd
      simp only at hm hd hh
      subst hm hd hh
      have es : sl = #[k0, k1, k2, k3, some (.builtin "ValueError.__new__"), k5] := by
        apply Array.ext'
        exact hs
      subst es
      exact ⟨nm, q, N, bs, bm, sn, sub, ab, col, dd, k0, k1, k2, k3, k5, hl, hb⟩
    · cases h
  · cases h
structure RefC (K : PySem.W.Frag) : Prop where
  oex : OexC K (cRef K)
  ini : PySem.W.findIn K (.ref (cRef K)) "__init__" = some (some (.ref (fRef K)))
  tI : PySem.W.typeIn K (.ref (fRef K)) = some (.type "function")
  exm : PySem.W.exmOne K (.ref (cRef K)) (.ref (cRef K)) = some true
  xf : XfC K (cRef K)
theorem Tx.ref {w : World} {K : PySem.W.Frag} {mg : PySem.Str → Option Value} (T : Tx w K mg) : RefC K := by
  have h := T.s.ex
  unfold exB at h
  have h := (Bool.and_eq_true_iff.mp (Bool.and_eq_true_iff.mp (Bool.and_eq_true_iff.mp (Bool.and_eq_true_iff.mp (Bool.and_eq_true_iff.mp h).2).2).2).2).2
  unfold refB at h
  obtain ⟨h1, h⟩ := Bool.and_eq_true_iff.mp h
  obtain ⟨h2, h⟩ := Bool.and_eq_true_iff.mp h
  obtain ⟨h3, h⟩ := Bool.and_eq_true_iff.mp h
  obtain ⟨h4, h⟩ := Bool.and_eq_true_iff.mp h
  obtain ⟨h5, h⟩ := Bool.and_eq_true_iff.mp h
  obtain ⟨h6, h⟩ := Bool.and_eq_true_iff.mp h
  obtain ⟨h7, h⟩ := Bool.and_eq_true_iff.mp h
  obtain ⟨h8, h9⟩ := Bool.and_eq_true_iff.mp h
  exact ⟨⟨excB_ok h1, He.eqO_ok h2, of_decide_eq_true h3, of_decide_eq_true h4, h5⟩, He.eqO_ok h6, of_decide_eq_true h7, of_decide_eq_true h8, xfB_ok h9⟩
/-- Refusal(..) where nothing is handled: the exception's context is None -/
theorem pmk_ref {X : Cx} {e : Expr} {es : List Expr} {ta : TA} {p pos : Pos} {k : Nat} {fd : FuncData} {ps : List PySem.Str} {sp : Sp} (R : RefC X.K) (F1 : FnOk X.prog X.w X.K X.mg X.base CX0 k (fRef X.K) fd ps sp) (hr : Room (k + 1) X.A) (hb : Binds X.K fd ps [])
    (hg : Gl X "Refusal") (hm : X.mg "Refusal" = some (.ref (cRef X.K))) (ha : PA X (e :: es) ta) (he : starEach (e :: es) X.env = (false, eval e X.env) :: starEach es X.env := by rfl) (hpl : (backTo pos (starEach es X.env)).any (·.1) = false := by rfl) :
    L2N.PMk X (.Call (.Name "Refusal" p) (e :: es) [] pos) (tMkO (cRef X.K) sp [] ta) := fun pins s σ H Q I h => by
  obtain ⟨nm, q, N, bs, bm, sn, sub, ab, col, dd, k0, k1, k2, k3, k5, cls, vE⟩ := R.oex.cls
  refine wpAny_Call_Name_kw (ld_glob I hg hm ?_ (by decide))
  refine PySem.W.callWith_K (h₀ := X.base) I.ok.mod.kin R.oex.kC (thn (ha.run pos pins s σ H _ I h) fun us t => ?_) he hpl
  rintro ⟨vs, H1, J, rv, lz, make⟩
  refine ⟨J.kIn, ?_⟩
  obtain ⟨hp, gens, drawn, tk, os⟩ := t
  -- the arguments' tuple, the object
  let G : Heap := (hp.push (PySem.W.kdv_tup us)).push (PySem.HandSPX.excO (cRef X.K) hp.objs.size)
  have le : hp.objs.size ≤ hp.objs.size + 1 := Nat.le_succ _
  have at0 : H1 (hp.objs.size + 1) = none := J.hok.fresh le
  have old : ∀ b o, hp.get? b = some o → G.get? b = some o := fun b o z => Heap.get?_push_of_some _ (Heap.get?_push_of_some _ z)
  have obj : G.get? (hp.objs.size + 1) = some (PySem.HandSPX.excO (cRef X.K) hp.objs.size) := by
    show ((hp.push (PySem.W.kdv_tup us)).push _).get? _ = _
    heap_get
  have J2 : Inv X pins σ (upd H1 (hp.objs.size + 1) (exo (hp.objs.size + 1) (cRef X.K) none)) ⟨G, gens, drawn, tk, os⟩ := J.laid (t' := tk) (h' := G) old le (exo_ok obj)
  have told := make (hp.objs.size + 1) at0
  rw [List.append_nil] at told
  have rv2 : Vals (V.ref (hp.objs.size + 1) :: vs) (Value.ref (hp.objs.size + 1) :: us) := .cons rfl rv
  have n1 := F1.len _ _ _ _ told
  have n2 := rv2.length
  have small : us.length ≤ sizeLine := by
    rw [← Paired.length rv, sizeLine_eq]
    omega
  have bnd := hb ⟨G, gens, drawn, tk, os⟩ (Value.ref (hp.objs.size + 1) :: us) J2.kIn (by rw [List.append_nil, ← n2, n1])
  rw [List.append_nil] at bnd
  refine wpAny_call (PySem.HandSPX.call_own F.excBase_ValueError (fun Y => PySem.HandSPX.refsVE_contains Y bm vE) (J.kIn _ _ cls) (PySem.W.looks_findIn J.kIn R.ini) (fun self => PySem.W.bind_fn J.kIn self R.tI) small (codeAny_mono (F1.run _ X.stack _ _ ⟨Value.ref (hp.objs.size + 1) :: us, []⟩ _ _ _ (fun _ _ _ => False) (hr.make (cRef X.K) us []) (J2.env0.make (cRef X.K) us []) bnd rv2 told) ?_))
  intro r s' z
  cases r with
  | error er => exact z.elim
  | ok fl =>
    cases fl with
    | ret u =>
      obtain ⟨v, H2, eo, bare, un, hok, ru, rfl, d, fs, ea, ed, d0, z⟩ := z
      obtain ⟨t0, G2, J3, k3, g3, o3, n3⟩ := mk_end0 (d2 := s'.drawn) (t2 := s'.toks) J le old un hok eo bare ea ed d0
      refine ⟨ru, hp.objs.size + 1, _, _, ⟨G2, s'.gens, s'.drawn, s'.toks, s'.os⟩, _, .ref (cRef X.K), some d, rfl, J3, k3, g3, o3, ⟨rfl, rfl, fun w hw => ?_⟩, rfl, rfl, n3, rfl, bare, raises_own R.oex.exC R.oex.tyC, z⟩
      cases hw
      rfl
    | next => exact z.elim
    | brk => exact z.elim
    | cont => exact z.elim
theorem pmk_ref2 {X : Cx} {e : Expr} {es : List Expr} {ta : TA} {p pos : Pos} {j k : Nat} {ps : List PySem.Str} {sp : Sp} (R : RefC X.K) (F1 : ∃ fd, FnOk X.prog X.w X.K X.mg X.base CX0 k (fRef X.K) fd ps sp ∧ Binds X.K fd ps []) (hr : Room j X.A) (hj : k + 1 ≤ j)
    (hg : Gl X "Refusal") (hm : X.mg "Refusal" = some (.ref (cRef X.K))) (ha : PA X (e :: es) ta) (he : starEach (e :: es) X.env = (false, eval e X.env) :: starEach es X.env := by rfl) (hpl : (backTo pos (starEach es X.env)).any (·.1) = false := by rfl) :
    L2N.PMk X (.Call (.Name "Refusal" p) (e :: es) [] pos) (tMkO (cRef X.K) sp [] ta) := by
  obtain ⟨fd, F, b⟩ := F1
  exact pmk_ref R F (hr.mono hj) b hg hm ha he hpl
end CT

namespace CT
open PySem PySem.Spec PyProof.Rows L2
theorem byteS_app {a b : PySem.Str} (ha : byteS a) (hb : byteS b) : byteS (a ++ b) := fun c hc => by
  have e : (a ++ b).cps.toList = a.cps.toList ++ b.cps.toList := by
    show (a.cps ++ b.cps).toList = _
    rw [Array.toList_append]
  rw [e] at hc
  rcases List.mem_append.mp hc with h | h
  · exact ha c h
  · exact hb c h
theorem txt_app {a b : PySem.Str} : txt (a ++ b) = txt a ++ txt b := by
  unfold txt
  show ((a.cps ++ b.cps).toList).map _ = _
  rw [Array.toList_append, List.map_append]
instance {z : PySem.Str} : Decidable (byteS z) := inferInstanceAs (Decidable (∀ c ∈ z.cps.toList, c < 256))
section
variable {P : Program} {w : World} {K : PySem.W.Frag} {mg : PySem.Str → Option Value} {base : Heap}
theorem takesN {N : List PySem.Str} {qual : PySem.Str} {scope : Scope} {f : Addr} {cdv : Value} {A : Around} {outer : List Env} {s : Shared} {H : Hp} {E : XK} : L2N.Takes (cxOf (XN P w) P w K mg base N qual scope f cdv A outer s H E) (fun cls d _ H => E cls d H) := L2N.takes_of rfl rfl rfl rfl
theorem passX {N : List PySem.Str} {qual : PySem.Str} {scope : Scope} {f : Addr} {cdv : Value} {A : Around} {outer : List Env} {s : Shared} {H : Hp} {E : XK} : ∀ σ, PassesAt (XN P w) (cxOf (XN P w) P w K mg base N qual scope f cdv A outer s H E) σ E := fun σ => L2N.passAt takesN σ
def siRef (K : PySem.W.Frag) : Sp := sp3 fun s x y H Q _ => ∃ a, s = .ref a ∧ H a = some (exo a (cRef K) none) ∧ ∀ d, H d = none → d ≠ a → Q .non (upd (upd (upd H d (exd d [("kind", x)])) a (exo a (cRef K) (some d))) d (exd d [("message", y), ("kind", x)]))
abbrev n_init_Refusal : List PySem.Str := ["self", "kind", "message"]
theorem sc_init_Refusal : FnScope n_init_Refusal ["self", "kind", "message"] d_init_Refusal.scope := ⟨rfl, rfl, rfl, by decide +kernel, rfl, by decide +kernel, by decide +kernel⟩
theorem fn_ref (T : Tx w K mg) : ∃ fd, FnOk P w K mg base CX0 1 (fRef K) fd ["self", "kind", "message"] (siRef K) ∧ Binds K fd ["self", "kind", "message"] [] := by
  obtain ⟨fd, F⟩ := T.fd_init_Refusal
  refine ⟨fd, F.ok sc_init_Refusal (fun _ _ _ _ h => sp3_len h) fun cdv A outer s H vs Q E hr h => ?_, F.bindsN (fun _ _ _ _ _ _ us hl => match us, hl with | [_, _, _], _ => rfl)⟩
  obtain ⟨_, x, y, rfl, a, rfl, hA, q⟩ := h
  refine ⟨_, (pss_cons (ps_ost (pv 0) (pv 1))
      (pss_one (ps_ost (pv 0) (pv 2)))), ?_⟩
  refine ⟨_, rfl, _, rfl, a, _, rfl, T.ref.oex, T.n_Refusal_kind, .inl ⟨hA, fun d nd ne => ?_⟩⟩
  refine ⟨_, rfl, _, rfl, a, _, rfl, T.ref.oex, T.n_Refusal_message, .inr ⟨d, _, upd_same, ?_, (by show 1 ≤ 900; decide), q d nd ne⟩⟩
  rw [upd_ne ne]
  exact upd_same
theorem gone {H1 : Hp} {a d : Addr} {o1 o2 o3 o4 o5 : HO} (ha : H1 a = none) (ne : d ≠ a) : upd (del (upd (upd (upd (upd H1 a o1) d o2) a o3) d o4) a) d o5 = upd H1 d o5 := by
  funext b
  by_cases z : b = d
  · rw [z, upd_same, upd_same]
  · rw [upd_ne z, upd_ne z]
    by_cases y : b = a
    · rw [y, del_same, ha]
    · rw [del_ne y, upd_ne z, upd_ne y, upd_ne z, upd_ne y]
/-- a refusal with a message of the program's own -/
def Refu (K : PySem.W.Frag) (H : Hp) (k : Int) (z : PySem.Str) (E : XK) : Prop := ∀ H' d t, Same H H' → H t = none → H' d = some (.xd [("message", .ref t), ("kind", .int k)]) → H' t = some (.tup (octV (txt z))) → E (.ref (cRef K)) (some d) H'
def spDemand (K : PySem.W.Frag) : Sp := sp3 fun x y u H Q E => ∃ b k z, x = .bl b ∧ y = .int k ∧ u = .str z ∧ z.cps.size ≤ 1000 ∧ byteS z ∧ (b = true → Q .non H) ∧ (b = false → Refu K H k z E)
abbrev n_demand : List PySem.Str := ["is_good", "kind", "message"]
theorem sc_demand : FnScope n_demand ["is_good", "kind", "message"] d_demand.scope := ⟨rfl, rfl, rfl, by decide +kernel, rfl, by decide +kernel, by decide +kernel⟩
theorem c_demand (T : Tx w K mg) : Cal (XN P w) P w K mg base 3 "demand" (spDemand K) := by
  refine cal_mk T.fd_demand T.g_demand sc_demand (fun _ _ _ _ _ _ us hl => match us, hl with | [_, _, _], _ => rfl) (fun _ _ _ _ h => sp3_len h) (fun f cdv A outer s H vs Q E hr h => ?_)
  obtain ⟨_, _, _, rfl, b, k, z, rfl, rfl, rfl, small, bz, q1, q2⟩ := h
  refine ⟨_, (pss_one (ps_if (pt_not (pt_val (pv 0))) (pss_one (L2N.ps_raise rfl takesN (pmk_ref2 T.ref (fn_ref T) hr (by decide) rfl T.g_Refusal (pa_cons (pv 1) (pa_cons (pe_cal (c_octets_of T) hr (by decide) rfl passC (pa_cons (pv 2) pa_nil)) pa_nil))))) pss_nil)), ?_⟩
  refine ⟨_, rfl, b, rfl, ?_⟩
  cases b with
  | true => exact if_f rfl (q1 rfl)
  | false =>
    refine if_t rfl ⟨_, rfl, _, rfl, _, rfl, z, rfl, small, fun H1 t s1 nt ht => ⟨(by show 2 ≤ 1000; decide), fun a na => ⟨_, _, _, rfl, a, rfl, upd_same, fun d nd ne => ⟨rfl, d, _, ?_, upd_same, ?_, ?_⟩⟩⟩⟩
    · rw [upd_ne (Ne.symm ne), upd_same]
    · rw [upd_ne ne] at nd
      exact nd
    · have nd' : H1 d = none := by
        rw [upd_ne ne] at nd
        exact nd
      rw [gone na ne]
      refine q2 rfl _ d t (s1.trans (same_new nd')) nt upd_same ?_
      rw [octV_txt bz]
      exact same_new nd' _ _ ht
def spExpect (K : PySem.W.Frag) : Sp := sp3 fun x y u H Q E => ∃ b p z, x = .bl b ∧ y = .str p ∧ u = .str z ∧ p.cps.size ≤ 400 ∧ byteS p ∧ z.cps.size ≤ 400 ∧ byteS z ∧ (b = true → Q .non H) ∧ (b = false → Refu K H 1 (p ++ ": " ++ z) E)
abbrev n_expect : List PySem.Str := ["is_good", "place", "words"]
theorem sc_expect : FnScope n_expect ["is_good", "place", "words"] d_expect.scope := ⟨rfl, rfl, rfl, by decide +kernel, rfl, by decide +kernel, by decide +kernel⟩
theorem c_expect (T : Tx w K mg) : Cal (XN P w) P w K mg base 4 "expect" (spExpect K) := by
  refine cal_mk T.fd_expect T.g_expect sc_expect (fun _ _ _ _ _ _ us hl => match us, hl with | [_, _, _], _ => rfl) (fun _ _ _ _ h => sp3_len h) (fun f cdv A outer s H vs Q E hr h => ?_)
  obtain ⟨_, _, _, rfl, b, p, z, rfl, rfl, rfl, h1, h2, h3, h4, q1, q2⟩ := h
  refine ⟨_, (pss_one (ps_expr (pe_cal (c_demand T) hr (by decide) rfl passX (pa_cons (pv 0) (pa_cons (pe_gi T.i_WRONG_KIND rfl) (pa_cons (pe_op op_add_str (pe_op op_add_str (pv 1) pe_str) (pv 2)) pa_nil)))))), ?_⟩
  refine ⟨_, rfl, _, rfl, _, _, rfl, rfl, ?_, _, rfl, _, _, rfl, rfl, ?_, _, _, _, rfl, b, 1, _, rfl, rfl, rfl, ?_, ?_, q1, q2⟩
  · show p.cps.size + 2 ≤ sizeLine
    rw [sizeLine_eq]
    omega
  · show (p.cps ++ _).size + z.cps.size ≤ sizeLine
    rw [Array.size_append, sizeLine_eq]
    show p.cps.size + 2 + z.cps.size ≤ _
    omega
  · show ((p.cps ++ _) ++ z.cps).size ≤ 1000
    rw [Array.size_append, Array.size_append]
    show p.cps.size + 2 + z.cps.size ≤ _
    omega
  · exact byteS_app (byteS_app h2 (by decide)) h4
end
end CT


namespace CT
open PySem PySem.Spec PyProof.Rows L2
/-! ### texts of octets compared -/
def octL (u : List UInt8) : List PyData := u.map fun o => .int (o.toNat : Int)
theorem dp_oct {K : PySem.W.Frag} {H : Hp} : ∀ u : List UInt8, DpAll K H (octV u) (octL u)
  | [] => .nil
  | o :: u => .cons (.int _) (dp_oct u)
theorem can_oct : ∀ u : List UInt8, PyData.canLayAll0 (octL u) = true
  | [] => rfl
  | o :: u => by
    show (true && PyData.canLayAll0 (octL u)) = true
    rw [can_oct u]
    rfl
theorem depth_oct : ∀ u : List UInt8, PyData.depthAll (octL u) = 0
  | [] => rfl
  | o :: u => by
    show max 0 (PyData.depthAll (octL u)) = 0
    rw [depth_oct u]
    rfl
theorem shaped_oct (u : List UInt8) : SeqAt.shaped (.tuple (octL u)) = true := by
  unfold SeqAt.shaped
  have h1 : PyData.canLay0 (.tuple (octL u)) = true := can_oct u
  have h2 : PyData.depth (.tuple (octL u)) = 1 := by
    show PyData.depthAll (octL u) + 1 = 1
    rw [depth_oct]
  rw [h1, h2]
  rfl
theorem eqv_oct : ∀ u v : List UInt8, PyData.eqvAll (octL u) (octL v) = (u == v)
  | [], [] => rfl
  | [], _ :: _ => rfl
  | _ :: _, [] => rfl
  | a :: u, b :: v => by
    show (((a.toNat : Int) == (b.toNat : Int)) && PyData.eqvAll (octL u) (octL v)) = _
    rw [eqv_oct u v]
    have e : ((a.toNat : Int) == (b.toNat : Int)) = (a == b) := by
      rw [Bool.eq_iff_iff]
      simp only [beq_iff_eq]
      constructor
      · intro h
        exact UInt8.toNat_inj.mp (by omega)
      · intro h
        rw [h]
    rw [e]
    rfl
/-- a member by its name, nothing if there is none -/
def memb (l : List (RWire.Text × RWire.Value)) (z : RWire.Text) : RWire.Value := match l.find? fun e => e.1 == z with
  | some e => e.2
  | none => .nothing
def isBt (v : RWire.Value) (lo hi : Int) : Bool := match v with
  | .int i => decide (lo ≤ i) && decide (i ≤ hi)
  | _ => false
def kindN : RWire.Value → Int
  | .nothing => 0
  | .null => 1
  | .bool b => if b then 3 else 2
  | .int _ => 4
  | .big _ => 5
  | .text _ => 6
  | .list _ => 7
  | .record _ => 8
  | .octets _ => 10
  | .wide _ => 11
theorem vat_kind {K : PySem.W.Frag} {F : Hp} {v : RWire.Value} {x : V} (h : VAt K F v x) : ∃ y, VIs K F x (kindN v) y := by
  cases v with
  | nothing => exact ⟨_, h⟩
  | null => exact ⟨_, h⟩
  | bool b => exact ⟨_, h⟩
  | int i => exact ⟨_, h⟩
  | big i => exact h.elim
  | octets u => exact h.elim
  | wide u => exact h.elim
  | text u =>
    obtain ⟨t, h, _⟩ := h
    exact ⟨_, h⟩
  | list l =>
    obtain ⟨p, xs, h, _⟩ := h
    exact ⟨_, h⟩
  | record l =>
    obtain ⟨p, xs, h, _⟩ := h
    exact ⟨_, h⟩
section
variable {P : Program} {w : World} {K : PySem.W.Frag} {mg : PySem.Str → Option Value} {base : Heap}
def spIsBetween (K : PySem.W.Frag) : Sp := sp3 fun x y z H Q _ => ∃ F v lo hi, VAt K F v x ∧ Same F H ∧ y = .int lo ∧ z = .int hi ∧ Q (.bl (isBt v lo hi)) H
abbrev n_is_between : List PySem.Str := ["value", "low", "high"]
theorem sc_is_between : FnScope n_is_between ["value", "low", "high"] d_is_between.scope := ⟨rfl, rfl, rfl, by decide +kernel, rfl, by decide +kernel, by decide +kernel⟩
theorem c_is_between (T : Tx w K mg) : Cal (CX0) P w K mg base 1 "is_between" (spIsBetween K) := by
  refine cal_mk T.fd_is_between T.g_is_between sc_is_between (fun _ _ _ _ _ _ us hl => match us, hl with | [_, _, _], _ => rfl) (fun _ _ _ _ h => sp3_len h) (fun f cdv A outer s H vs Q E hr h => ?_)
  obtain ⟨x, _, _, rfl, F, v, lo, hi, hv, sF, rfl, rfl, q⟩ := h
  refine ⟨_, PSs.nox ((pss_one (ps_ret (pe_and (pe_cmpR op_eq (pe_fld (pv 0) rfl) (pe_gi T.i_INTEGER rfl) (nomark _)) (pe_and (pe_cmpR op_le (pv 1) (pe_fld (pv 0) rfl) (nomark _)) (pe_one (pe_cmpR op_le (pe_fld (pv 0) rfl) (pv 2) (nomark _)))))))), ?_⟩
  obtain ⟨y, a, dx, rfl, ha⟩ := vat_kind hv
  have hA := sF _ _ ha
  refine ⟨_, rfl, r_fld hA T.c_Value T.n_Value_kind vF_kind ⟨rfl, _, rfl, ?_⟩⟩
  cases v with
  | int i =>
    obtain ⟨a', dx', e, ha'⟩ := hv
    cases e
    rw [ha] at ha'
    have hy : y = .int i := by
      have h3 := (HO.ins.inj (Option.some.inj ha')).2.2
      have := congrArg (fun l => l.lookup ("held" : PySem.Str)) h3
      rw [vF_held, vF_held] at this
      exact Option.some.inj this
    subst hy
    refine if_t (by kernel_rfl) ⟨_, rfl, _, rfl, r_fld hA T.c_Value T.n_Value_held vF_held ⟨_, _, rfl, rfl, _, rfl, ?_⟩⟩
    have q : Q (.bl (decide (lo ≤ i) && decide (i ≤ hi))) H := q
    cases c : decide (lo ≤ i) with
    | false =>
      rw [c] at q
      exact if_f rfl q
    | true =>
      rw [c] at q
      exact if_t rfl ⟨_, rfl, r_fld hA T.c_Value T.n_Value_held vF_held ⟨_, rfl, _, _, rfl, rfl, q⟩⟩
  | bool b =>
    refine if_f ?_ q
    cases b <;> decide
  | _ => exact if_f (by kernel_rfl) q
def spMember (K : PySem.W.Frag) : Sp := sp2 fun x y H Q _ => ∃ F l z, VAt K F (.record l) x ∧ Same F H ∧ y = .str z ∧ z.cps.size ≤ 1000 ∧ byteS z ∧
  ∀ H' u, Same H H' → (VAt K F (memb l (txt z)) u ∨ memb l (txt z) = .nothing ∧ VAt K H' .nothing u) → Q u H'
abbrev n_member : List PySem.Str := ["value", "name", "other", "held"]
theorem sc_member : FnScope n_member ["value", "name"] d_member.scope := ⟨rfl, rfl, rfl, by decide +kernel, rfl, by decide +kernel, by decide +kernel⟩
theorem c_member (T : Tx w K mg) : Cal (CX0) P w K mg base 3 "member" (spMember K) := by
  refine cal_mk T.fd_member T.g_member sc_member (fun _ _ _ _ _ _ us hl => match us, hl with | [_, _], _ => rfl) (fun _ _ _ _ h => sp2_len h) (fun f cdv A outer s H vs Q E hr h => ?_)
  obtain ⟨x, _, rfl, F, l, z, hv, sF, rfl, small, bz, q⟩ := h
  refine ⟨_, PSs.nox ((pss_cons (ps_for PassesOwn.never rfl (pi_list (pe_fld (pv 0) rfl)) (pg_tup rfl (pgs_cons (pg_name (i := 2) sc_member.nd rfl (Or.inl rfl)) (pgs_cons (pg_name (i := 3) sc_member.nd rfl (Or.inl rfl)) pgs_nil))) (pss_one (ps_if (pt_cmpR (op_eqD hr.units) (pv 2) (pe_cal (c_octets_of T) hr (by decide) rfl passC (pa_cons (pv 1) pa_nil)) (nomark _)) (pss_one (ps_ret (pv 3))) pss_nil)))
      (pss_one (ps_ret (pe_new (new_Value T) hr (by decide) rfl (pa_cons (pe_gi T.i_NOTHING rfl) (pa_cons pe_int pa_nil))))))), ?_⟩
  obtain ⟨p, xs, ⟨a, dx, rfl, ha⟩, hp, hxs⟩ := hv
  have hA := sF _ _ ha
  refine ⟨_, rfl, r_fld hA T.c_Value T.n_Value_held vF_held ⟨p, rfl, ⟨_, SqL.of (sF _ _ hp)⟩, for_list (fun j σ H1 => Same H H1 ∧ (l.take j).find? (fun e => e.1 == txt z) = none ∧ ∃ o2 o3, σ = [some (.ref a), some (.str z), o2, o3]) ⟨Same.refl H, rfl, _, _, rfl⟩ (fun j σ H1 _ h => SqL.of (h.1 _ _ (sF _ _ hp))) ?_ ?_⟩⟩
  · rintro j y σ H1 hy ⟨s1, no, o2, o3, rfl⟩
    obtain ⟨e, t, n, u, ge, rfl, ht, hn, hu⟩ := hxs.get hy
    refine ⟨t, _, rfl, SqT.of (s1 _ _ (sF _ _ ht)), rfl, _, _, rfl, _, _, rfl, rfl, ?_⟩
    refine ⟨_, rfl, _, rfl, _, rfl, z, rfl, small, fun H2 t2 s2 nt2 ht2 => ?_⟩
    rw [← octV_txt bz] at ht2
    refine ⟨_, _, .tup (SqT.of (s2 _ _ (s1 _ _ (sF _ _ hn)))) (dp_oct e.1), .tup (SqT.of ht2) (dp_oct (txt z)), shaped_oct _, shaped_oct _, _, rfl, ?_⟩
    have ev : PyData.eqv (.tuple (octL e.1)) (.tuple (octL (txt z))) = (e.1 == txt z) := eqv_oct _ _
    rw [ev]
    have tk := take_succ_get ge
    cases c : (e.1 == txt z) with
    | true =>
      refine if_t rfl ⟨_, rfl, q _ u (s1.trans s2) (.inl ?_)⟩
      have : memb l (txt z) = e.2 := by
        unfold memb
        have hl : l = l.take (j + 1) ++ l.drop (j + 1) := (List.take_append_drop _ _).symm
        rw [hl, tk, List.append_assoc, List.find?_append, no]
        simp [List.find?, c]
      rw [this]
      exact hu
    | false =>
      refine if_f rfl ⟨s1.trans s2, ?_, _, _, rfl⟩
      rw [tk, List.find?_append, no]
      simp [List.find?, c]
  · rintro σ H1 ⟨s1, no, o2, o3, rfl⟩
    rw [hxs.len, take_len] at no
    refine ⟨_, _, rfl, 0, rfl, fun H2 b dx2 s2 n2 h2 => q _ _ (s1.trans s2) (.inr ⟨?_, b, dx2, rfl, h2⟩)⟩
    unfold memb
    rw [no]
end
end CT


namespace CT
open PySem PySem.Spec PyProof.Rows L2
/-- a small number in digits -/
def decS (n : Nat) : PySem.Str := PySem.Str.ofString (toString (n : Int))
theorem decS_all : ((List.range 41).all fun n => decide ((decS n).cps.size ≤ 2) && (decide (byteS (decS n)) && decide (txt (decS n) = (R7285d.Spec.decimal n).map Rust.octetOf))) = true := by decide +kernel
theorem decS_ok {n : Nat} (h : n ≤ 40) : (decS n).cps.size ≤ 2 ∧ byteS (decS n) ∧ txt (decS n) = (R7285d.Spec.decimal n).map Rust.octetOf := by
  have := List.all_eq_true.mp decS_all n (List.mem_range.mpr (by omega))
  simp only [Bool.and_eq_true, decide_eq_true_eq] at this
  exact this
theorem app_size {a b : PySem.Str} : (a ++ b).cps.size = a.cps.size + b.cps.size := by
  show (a.cps ++ b.cps).size = _
  exact Array.size_append
theorem str_line {a b : PySem.Str} (h : a.cps.size + b.cps.size ≤ 100000) : a.length + b.length ≤ sizeLine := by
  show a.cps.size + b.cps.size ≤ _
  rw [sizeLine_eq]
  omega
def betw (lo hi : Nat) : PySem.Str := "expected an integer from " ++ decS lo ++ " to " ++ decS hi
theorem betw_ok {lo hi : Nat} (h1 : lo ≤ 40) (h2 : hi ≤ 40) : (betw lo hi).cps.size ≤ 400 ∧ byteS (betw lo hi) := by
  obtain ⟨a1, a2, _⟩ := decS_ok h1
  obtain ⟨b1, b2, _⟩ := decS_ok h2
  unfold betw
  refine ⟨?_, byteS_app (byteS_app (byteS_app (by decide +kernel) a2) (by decide +kernel)) b2⟩
  rw [app_size, app_size, app_size]
  have e1 : (PySem.Str.ofString "expected an integer from ").cps.size = 25 := by decide +kernel
  have e2 : (PySem.Str.ofString " to ").cps.size = 4 := by decide +kernel
  rw [e1, e2]
  omega
theorem small_log {n : Nat} (h : n ≤ 40) : ((n : Int)).natAbs.log2 < 1920 := by
  rw [Int.natAbs_natCast]
  have := List.all_eq_true.mp (show ((List.range 41).all fun n => decide (n.log2 < 1920)) = true by decide +kernel) n (List.mem_range.mpr (by omega))
  exact of_decide_eq_true this
section
variable {P : Program} {w : World} {K : PySem.W.Frag} {mg : PySem.Str → Option Value} {base : Heap}
def spExpectNumber (K : PySem.W.Frag) : Sp := sp4 fun x y z u H Q E => ∃ F v p, ∃ lo hi : Nat, VAt K F v x ∧ Same F H ∧ y = .str p ∧ z = natV lo ∧ u = natV hi ∧ lo ≤ 40 ∧ hi ≤ 40 ∧ p.cps.size ≤ 400 ∧ byteS p ∧
  (∀ i : Nat, v = .int i → lo ≤ i → i ≤ hi → Q (natV i) H) ∧ (isBt v lo hi = false → Refu K H 1 (p ++ ": " ++ betw lo hi) E)
abbrev n_expect_number : List PySem.Str := ["value", "place", "low", "high"]
theorem sc_expect_number : FnScope n_expect_number ["value", "place", "low", "high"] d_expect_number.scope := ⟨rfl, rfl, rfl, by decide +kernel, rfl, by decide +kernel, by decide +kernel⟩
theorem c_expect_number (T : Tx w K mg) : Cal (XN P w) P w K mg base 5 "expect_number" (spExpectNumber K) := by
  refine cal_mk T.fd_expect_number T.g_expect_number sc_expect_number (fun _ _ _ _ _ _ us hl => match us, hl with | [_, _, _, _], _ => rfl) (fun _ _ _ _ h => sp4_len h) (fun f cdv A outer s H vs Q E hr h => ?_)
  obtain ⟨x, _, _, _, rfl, F, v, p, lo, hi, hv, sF, rfl, rfl, rfl, h1, h2, h3, h4, q1, q2⟩ := h
  refine ⟨_, (pss_cons (ps_expr (pe_cal (c_expect T) hr (by decide) rfl passX (pa_cons (pe_cal (c_is_between T) hr (by decide) rfl passC (pa_cons (pv 0) (pa_cons (pv 2) (pa_cons (pv 3) pa_nil)))) (pa_cons (pv 1) (pa_cons (pe_op op_add_str (pe_op op_add_str (pe_op op_add_str pe_str (pe_callTy call_str_int rfl T.f_str (by decide +kernel) (pa_cons (pv 2) pa_nil))) pe_str) (pe_callTy call_str_int rfl T.f_str (by decide +kernel) (pa_cons (pv 3) pa_nil))) pa_nil)))))
      (pss_one (ps_ret (pe_fld (pv 0) rfl)))), ?_⟩
  obtain ⟨a1, a2, _⟩ := decS_ok h1
  obtain ⟨b1, b2, _⟩ := decS_ok h2
  obtain ⟨c1, c2⟩ := betw_ok h1 h2
  have e1 : (PySem.Str.ofString "expected an integer from ").cps.size = 25 := by decide +kernel
  have e2 : (PySem.Str.ofString " to ").cps.size = 4 := by decide +kernel
  refine ⟨_, rfl, _, rfl, _, rfl, _, _, _, rfl, F, v, lo, hi, hv, sF, rfl, rfl, ?_⟩
  refine ⟨_, rfl, _, rfl, _, rfl, ?_, _, _, rfl, rfl, ?_, _, _, rfl, rfl, ?_, _, rfl, _, rfl, ?_, _, _, rfl, rfl, ?_, ?_⟩
  · exact small_log h1
  · exact str_line (by
      show _ + (decS lo).cps.size ≤ _
      rw [e1]
      omega)
  · exact str_line (by
      show (PySem.Str.ofString "expected an integer from " ++ decS lo).cps.size + _ ≤ _
      rw [app_size, e1, e2]
      omega)
  · exact small_log h2
  · exact str_line (by
      show (PySem.Str.ofString "expected an integer from " ++ decS lo ++ PySem.Str.ofString " to ").cps.size + (decS hi).cps.size ≤ _
      rw [app_size, app_size, e1, e2]
      omega)
  · refine ⟨_, _, _, rfl, isBt v lo hi, p, betw lo hi, rfl, rfl, rfl, h3, h4, c1, c2, fun hb => ?_, fun hb => q2 hb⟩
    cases v with
    | int i =>
      have hb : (decide ((lo : Int) ≤ i) && decide (i ≤ (hi : Int))) = true := hb
      simp only [Bool.and_eq_true, decide_eq_true_eq] at hb
      obtain ⟨a, dx, rfl, ha⟩ := hv
      obtain ⟨n, rfl⟩ : ∃ n : Nat, i = (n : Int) := ⟨i.toNat, by omega⟩
      exact ⟨_, rfl, r_fld (sF _ _ ha) T.c_Value T.n_Value_held vF_held (q1 n rfl (by omega) (by omega))⟩
    | _ => cases hb
end
end CT


namespace CT
open PySem PySem.Spec PyProof.Rows L2
/-! ### what the document says of a description, on values as they are read -/
abbrev Units := R7285d.Spec.Units
def uo (u : Units) : RWire.Text := u.map Rust.octetOf
theorem uo_app (a b : Units) : uo (a ++ b) = uo a ++ uo b := List.map_append
def narrowU (u : Units) : Prop := ∀ c ∈ u, c.toNat < 256
theorem unit_octet (o : UInt8) : Rust.octetOf (Rust.unitOf o) = o := by
  unfold Rust.octetOf Rust.unitOf
  apply UInt8.toNat_inj.mp
  rw [UInt8.toNat_ofNat', UInt16.toNat_ofNat']
  have := o.toNat_lt
  omega
theorem octet_unit {c : UInt16} (h : c.toNat < 256) : Rust.unitOf (Rust.octetOf c) = c := by
  unfold Rust.octetOf Rust.unitOf
  apply UInt16.toNat_inj.mp
  rw [UInt16.toNat_ofNat', UInt8.toNat_ofNat']
  omega
theorem name_eq {u : Units} (h : narrowU u) (n : RWire.Text) : (n.map Rust.unitOf == u) = (n == uo u) := by
  rw [Bool.eq_iff_iff, beq_iff_eq, beq_iff_eq]
  constructor
  · intro e
    subst e
    unfold uo
    rw [List.map_map]
    have : Rust.octetOf ∘ Rust.unitOf = id := funext unit_octet
    rw [this, List.map_id]
  · intro e
    subst e
    unfold uo
    rw [List.map_map]
    conv => rhs; rw [← List.map_id u]
    exact List.map_congr_left fun c hc => octet_unit (h c hc)
theorem field_memb {name : String} (h : narrowU (R7285d.Spec.units name)) : ∀ l : List (RWire.Text × RWire.Value), R7285d.Spec.field (Rust.takenFields l) name = Rust.taken (memb l (uo (R7285d.Spec.units name)))
  | [] => rfl
  | e :: l => by
    obtain ⟨n, v⟩ := e
    have ih := field_memb h l
    unfold R7285d.Spec.field memb at ih ⊢
    have e1 : Rust.takenFields ((n, v) :: l) = (n.map Rust.unitOf, Rust.taken v) :: Rust.takenFields l := by
      rw [Rust.takenFields]
    rw [e1]
    simp only [List.find?]
    rw [name_eq h]
    cases c : (n == uo (R7285d.Spec.units name)) with
    | true => rfl
    | false => exact ih
theorem num_neg {i : Int} : ((RShim.F64.ofInt i) == RShim.F64.negZero) = false := rfl
theorem int_taken {v : RWire.Value} (g : goodV v) : R7285d.Spec.integerOf (Rust.taken v) = match v with
    | .int i => some i
    | _ => none := by
  cases v with
  | int i =>
    rw [Rust.taken]
    rfl
  | octets u => cases g.2.1
  | _ => rw [Rust.taken]; rfl
theorem intIn_bt {v : RWire.Value} (g : goodV v) {a b : Int} : R7285d.Spec.intIn a b (Rust.taken v) = if isBt v a b = true then (match v with
    | .int i => some i
    | _ => none) else none := by
  unfold R7285d.Spec.intIn
  rw [int_taken g]
  cases v with
  | int i =>
    show (if a ≤ i ∧ i ≤ b then some i else none) = if (decide (a ≤ i) && decide (i ≤ b)) = true then some i else none
    by_cases c : a ≤ i ∧ i ≤ b
    · rw [if_pos c, if_pos (by simp [c.1, c.2])]
    · rw [if_neg c, if_neg (by
        simp only [Bool.and_eq_true, decide_eq_true_eq]
        exact c)]
  | _ => rfl
theorem integerIn_bt {v : RWire.Value} (g : goodV v) {a b : Nat} : R7285d.Spec.integerIn a b (Rust.taken v) = if isBt v a b = true then (match v with
    | .int i => some i.toNat
    | _ => none) else none := by
  unfold R7285d.Spec.integerIn
  rw [int_taken g]
  cases v with
  | int i =>
    show (if (a : Int) ≤ i ∧ i ≤ (b : Int) then some i.toNat else none) = if (decide ((a : Int) ≤ i) && decide (i ≤ (b : Int))) = true then some i.toNat else none
    by_cases c : (a : Int) ≤ i ∧ i ≤ (b : Int)
    · rw [if_pos c, if_pos (by simp [c.1, c.2])]
    · rw [if_neg c, if_neg (by
        simp only [Bool.and_eq_true, decide_eq_true_eq]
        exact c)]
  | _ => rfl
theorem takenAll_map : ∀ l : List RWire.Value, Rust.takenAll l = l.map Rust.taken
  | [] => by rw [Rust.takenAll]; rfl
  | v :: l => by rw [Rust.takenAll, takenAll_map l]; rfl
theorem memb_good {l : List (RWire.Text × RWire.Value)} (g : goodE l) (z : RWire.Text) : goodV (memb l z) := by
  unfold memb
  cases h : l.find? (fun e => e.1 == z) with
  | none => exact ⟨rfl, rfl, rfl⟩
  | some e => exact g e (List.mem_of_find?_eq_some h)
/-- a refusal of the document, as it comes out of a def -/
def RefuE (K : PySem.W.Frag) (H : Hp) (e : R7285d.Spec.Err) (E : XK) : Prop := ∀ H' d t, Same H H' → H t = none → H' d = some (.xd [("message", .ref t), ("kind", .int (Rust.classOf e.cls : Nat))]) → H' t = some (.tup (octV (uo e.msg))) → E (.ref (cRef K)) (some d) H'
theorem RefuE.up {K : PySem.W.Frag} {H H1 : Hp} {e : R7285d.Spec.Err} {E : XK} (h : RefuE K H e E) (s : Same H H1) : RefuE K H1 e E := fun H' d t s1 n h1 h2 => h H' d t (s.trans s1) (s.free n) h1 h2
theorem RefuE.of {K : PySem.W.Frag} {H : Hp} {u : Units} {z : PySem.Str} {E : XK} (h : RefuE K H ⟨.typeError, u⟩ E) (e : txt z = uo u) : Refu K H 1 z E := fun H' d t s1 n h1 h2 => h H' d t s1 n h1 (by rw [← e]; exact h2)
theorem lit_ok : ([("value", "value"), ("lock", "lock"), ("locks", "locks"), ("conditions", "conditions"), ("shared", "shared"), ("threads", "threads"), ("weight", "weight"), ("started", "started"), ("code", "code")].all fun (q : String × String) => decide (txt (PySem.Str.ofString q.1) = uo (R7285d.Spec.units q.2)) && decide (byteS (PySem.Str.ofString q.1)) && (R7285d.Spec.units q.2).all fun c => decide (c.toNat < 256)) = true := by decide +kernel
end CT


namespace CT
open PySem PySem.Spec PyProof.Rows L2
/-! ### a program that is being read -/
structure PLay where
  pr : Addr
  dx : Addr
  c : Addr
  g : Addr
  w : Addr
  s : Addr
  k : Addr
structure PVal where
  lo : Nat
  co : Nat
  cv : List Int
  gv : List Nat
  wv : List Nat
  sv : List Bool
  kv : List Addr
structure PB (K : PySem.W.Frag) (H0 H : Hp) (L : PLay) (v : PVal) : Prop where
  ins : H L.pr = some (.ins (cProg K) L.dx (pF v.lo v.co L.c L.g L.w L.s L.k))
  npr : H0 L.pr = none
  same : Same H0 H
  hc : H L.c = some (.lst (v.cv.map V.int))
  hg : H L.g = some (.lst (v.gv.map natV))
  hw : H L.w = some (.lst (v.wv.map natV))
  hs : H L.s = some (.lst (v.sv.map V.bl))
  hk : H L.k = some (.lst (v.kv.map V.ref))
  nc : H0 L.c = none
  ng : H0 L.g = none
  nw : H0 L.w = none
  ns : H0 L.s = none
  nk : H0 L.k = none
  dcg : L.c ≠ L.g
  dcw : L.c ≠ L.w
  dcs : L.c ≠ L.s
  dck : L.c ≠ L.k
  dgw : L.g ≠ L.w
  dgs : L.g ≠ L.s
  dgk : L.g ≠ L.k
  dws : L.w ≠ L.s
  dwk : L.w ≠ L.k
  dsk : L.s ≠ L.k
section
variable {K : PySem.W.Frag} {H0 H H1 : Hp} {L : PLay} {v : PVal}
theorem PB.up (B : PB K H0 H L v) (s : Same H H1) : PB K H0 H1 L v := { B with ins := s _ _ B.ins, same := B.same.trans s, hc := s _ _ B.hc, hg := s _ _ B.hg, hw := s _ _ B.hw, hs := s _ _ B.hs, hk := s _ _ B.hk }
theorem PB.app_c (B : PB K H0 H L v) (z : Int) : PB K H0 (upd H L.c (.lst (v.cv.map V.int ++ [V.int z]))) L { v with cv := v.cv ++ [z] } := { B with
  ins := by rw [upd_ne (ne_of B.ins B.hc (fun z => lst_ins z.symm))]; exact B.ins
  same := same_at B.nc B.same
  hc := by rw [upd_same, List.map_append]; rfl
  hg := by rw [upd_ne (Ne.symm B.dcg)]; exact B.hg
  hw := by rw [upd_ne (Ne.symm B.dcw)]; exact B.hw
  hs := by rw [upd_ne (Ne.symm B.dcs)]; exact B.hs
  hk := by rw [upd_ne (Ne.symm B.dck)]; exact B.hk }
theorem PB.app_g (B : PB K H0 H L v) (z : Nat) : PB K H0 (upd H L.g (.lst (v.gv.map natV ++ [natV z]))) L { v with gv := v.gv ++ [z] } := { B with
  ins := by rw [upd_ne (ne_of B.ins B.hg (fun z => lst_ins z.symm))]; exact B.ins
  same := same_at B.ng B.same
  hc := by rw [upd_ne B.dcg]; exact B.hc
  hg := by rw [upd_same, List.map_append]; rfl
  hw := by rw [upd_ne (Ne.symm B.dgw)]; exact B.hw
  hs := by rw [upd_ne (Ne.symm B.dgs)]; exact B.hs
  hk := by rw [upd_ne (Ne.symm B.dgk)]; exact B.hk }
theorem PB.app_w (B : PB K H0 H L v) (z : Nat) : PB K H0 (upd H L.w (.lst (v.wv.map natV ++ [natV z]))) L { v with wv := v.wv ++ [z] } := { B with
  ins := by rw [upd_ne (ne_of B.ins B.hw (fun z => lst_ins z.symm))]; exact B.ins
  same := same_at B.nw B.same
  hc := by rw [upd_ne B.dcw]; exact B.hc
  hg := by rw [upd_ne B.dgw]; exact B.hg
  hw := by rw [upd_same, List.map_append]; rfl
  hs := by rw [upd_ne (Ne.symm B.dws)]; exact B.hs
  hk := by rw [upd_ne (Ne.symm B.dwk)]; exact B.hk }
theorem PB.app_s (B : PB K H0 H L v) (z : Bool) : PB K H0 (upd H L.s (.lst (v.sv.map V.bl ++ [V.bl z]))) L { v with sv := v.sv ++ [z] } := { B with
  ins := by rw [upd_ne (ne_of B.ins B.hs (fun z => lst_ins z.symm))]; exact B.ins
  same := same_at B.ns B.same
  hc := by rw [upd_ne B.dcs]; exact B.hc
  hg := by rw [upd_ne B.dgs]; exact B.hg
  hw := by rw [upd_ne B.dws]; exact B.hw
  hs := by rw [upd_same, List.map_append]; rfl
  hk := by rw [upd_ne (Ne.symm B.dsk)]; exact B.hk }
theorem PB.app_k (B : PB K H0 H L v) (z : Addr) : PB K H0 (upd H L.k (.lst (v.kv.map V.ref ++ [V.ref z]))) L { v with kv := v.kv ++ [z] } := { B with
  ins := by rw [upd_ne (ne_of B.ins B.hk (fun z => lst_ins z.symm))]; exact B.ins
  same := same_at B.nk B.same
  hc := by rw [upd_ne B.dck]; exact B.hc
  hg := by rw [upd_ne B.dgk]; exact B.hg
  hw := by rw [upd_ne B.dwk]; exact B.hw
  hs := by rw [upd_ne B.dsk]; exact B.hs
  hk := by rw [upd_same, List.map_append]; rfl }
theorem PB.put_locks (B : PB K H0 H L v) (y : Nat) (c : Cls K (cProg K)) (na : NoAttr K (cProg K) "locks") {Q : Hp → Prop} (q : ∀ H1, PB K H0 H1 L { v with lo := y } → Q H1) :
    ∃ a' C' dx' fs', V.ref L.pr = .ref a' ∧ H a' = some (.ins C' dx' fs') ∧ Cls K C' ∧ NoAttr K C' "locks" ∧ fs'.length < 1000 ∧ Q (upd H a' (.ins C' dx' (putF "locks" (natV y) fs'))) :=
  r_set B.ins c na (by show 7 < 1000; decide) pF_put_locks (q _ { B with
    ins := upd_same
    same := same_at B.npr B.same
    hc := by rw [upd_ne (ne_of B.hc B.ins lst_ins)]; exact B.hc
    hg := by rw [upd_ne (ne_of B.hg B.ins lst_ins)]; exact B.hg
    hw := by rw [upd_ne (ne_of B.hw B.ins lst_ins)]; exact B.hw
    hs := by rw [upd_ne (ne_of B.hs B.ins lst_ins)]; exact B.hs
    hk := by rw [upd_ne (ne_of B.hk B.ins lst_ins)]; exact B.hk })
theorem PB.put_conditions (B : PB K H0 H L v) (y : Nat) (c : Cls K (cProg K)) (na : NoAttr K (cProg K) "conditions") {Q : Hp → Prop} (q : ∀ H1, PB K H0 H1 L { v with co := y } → Q H1) :
    ∃ a' C' dx' fs', V.ref L.pr = .ref a' ∧ H a' = some (.ins C' dx' fs') ∧ Cls K C' ∧ NoAttr K C' "conditions" ∧ fs'.length < 1000 ∧ Q (upd H a' (.ins C' dx' (putF "conditions" (natV y) fs'))) :=
  r_set B.ins c na (by show 7 < 1000; decide) pF_put_conditions (q _ { B with
    ins := upd_same
    same := same_at B.npr B.same
    hc := by rw [upd_ne (ne_of B.hc B.ins lst_ins)]; exact B.hc
    hg := by rw [upd_ne (ne_of B.hg B.ins lst_ins)]; exact B.hg
    hw := by rw [upd_ne (ne_of B.hw B.ins lst_ins)]; exact B.hw
    hs := by rw [upd_ne (ne_of B.hs B.ins lst_ins)]; exact B.hs
    hk := by rw [upd_ne (ne_of B.hk B.ins lst_ins)]; exact B.hk })
end
section
variable {P : Program} {w : World} {K : PySem.W.Frag} {mg : PySem.Str → Option Value} {base : Heap}
def spProgram (K : PySem.W.Frag) : Sp := sp0 fun H Q _ => ∀ H' L, PB K H H' L ⟨0, 0, [], [], [], [], []⟩ → Q (.ref L.pr) H'
def siProgram (K : PySem.W.Frag) : Sp := sp1 fun s H Q _ => ∃ H0 a dx, s = .ref a ∧ H0 a = none ∧ Same H0 H ∧ H a = some (.ins (cProg K) dx []) ∧ ∀ H' L, L.pr = a → PB K H0 H' L ⟨0, 0, [], [], [], [], []⟩ → Q .non H'
abbrev n_init_Program : List PySem.Str := ["self"]
theorem sc_init_Program : FnScope n_init_Program ["self"] d_init_Program.scope := ⟨rfl, rfl, rfl, by decide +kernel, rfl, by decide +kernel, by decide +kernel⟩
theorem new_Program (T : Tx w K mg) : New P w K mg base 1 "Program" (spProgram K) := by
  refine new_mk (si := siProgram K) T.fd_init_Program T.m_Program T.g_Program sc_init_Program (fun _ _ _ _ _ _ us hl => match us, hl with | [_], _ => rfl) (fun _ _ _ _ h => sp1_len h) ?hs (fun f cdv A outer s H vs Q E hr h => ?_)
  rotate_left
  obtain ⟨_, rfl, H0, a, dx, rfl, nA, s0, hA, q⟩ := h
  refine ⟨_, (pss_cons (ps_fld (pv 0) pe_int rfl)
      (pss_cons (ps_fld (pv 0) pe_int rfl)
      (pss_cons (ps_fld (pv 0) (pe_lst pa_nil) rfl)
      (pss_cons (ps_fld (pv 0) (pe_lst pa_nil) rfl)
      (pss_cons (ps_fld (pv 0) (pe_lst pa_nil) rfl)
      (pss_cons (ps_fld (pv 0) (pe_lst pa_nil) rfl)
      (pss_one (ps_fld (pv 0) (pe_lst pa_nil) rfl)))))))), ?_⟩
  refine ⟨_, rfl, r_put 0 hA (Nat.le_refl _) (by decide) T.c_Program T.n_Program_locks fun H1 h1 l1 k1 => ?_⟩
  refine ⟨_, rfl, r_put 1 h1 l1 (by decide) T.c_Program T.n_Program_conditions fun H2 h2 l2 k2 => ?_⟩
  have s2 : Same H0 H2 := same_put nA (same_put nA s0 k1) k2
  refine ⟨lineOf (by show 0 ≤ 1000; decide), fun c nc => ⟨_, rfl, r_put 2 (same_new nc _ _ h2) l2 (by decide) T.c_Program T.n_Program_contents fun H3 h3 l3 k3 => ?_⟩⟩
  have s3 : Same H0 H3 := same_put nA (s2.trans (same_new nc)) k3
  have zc : c ≠ a := fun e => by rw [e, h2] at nc; cases nc
  have fc : H3 c = some (.lst []) := (k3 c zc).trans upd_same
  refine ⟨lineOf (by show 0 ≤ 1000; decide), fun g ng => ⟨_, rfl, r_put 3 (same_new ng _ _ h3) l3 (by decide) T.c_Program T.n_Program_guards fun H4 h4 l4 k4 => ?_⟩⟩
  have dcg : c ≠ g := fun e => by rw [← e, fc] at ng; cases ng
  have s4 : Same H0 H4 := same_put nA (s3.trans (same_new ng)) k4
  have zg : g ≠ a := fun e => by rw [e, h3] at ng; cases ng
  have fg : H4 g = some (.lst []) := (k4 g zg).trans upd_same
  have fc : H4 c = some (.lst []) := (k4 c zc).trans (same_new ng _ _ fc)
  refine ⟨lineOf (by show 0 ≤ 1000; decide), fun w nw => ⟨_, rfl, r_put 4 (same_new nw _ _ h4) l4 (by decide) T.c_Program T.n_Program_weights fun H5 h5 l5 k5 => ?_⟩⟩
  have dcw : c ≠ w := fun e => by rw [← e, fc] at nw; cases nw
  have dgw : g ≠ w := fun e => by rw [← e, fg] at nw; cases nw
  have s5 : Same H0 H5 := same_put nA (s4.trans (same_new nw)) k5
  have zw : w ≠ a := fun e => by rw [e, h4] at nw; cases nw
  have fw : H5 w = some (.lst []) := (k5 w zw).trans upd_same
  have fc : H5 c = some (.lst []) := (k5 c zc).trans (same_new nw _ _ fc)
  have fg : H5 g = some (.lst []) := (k5 g zg).trans (same_new nw _ _ fg)
  refine ⟨lineOf (by show 0 ≤ 1000; decide), fun s ns => ⟨_, rfl, r_put 5 (same_new ns _ _ h5) l5 (by decide) T.c_Program T.n_Program_started fun H6 h6 l6 k6 => ?_⟩⟩
  have dcs : c ≠ s := fun e => by rw [← e, fc] at ns; cases ns
  have dgs : g ≠ s := fun e => by rw [← e, fg] at ns; cases ns
  have dws : w ≠ s := fun e => by rw [← e, fw] at ns; cases ns
  have s6 : Same H0 H6 := same_put nA (s5.trans (same_new ns)) k6
  have zs : s ≠ a := fun e => by rw [e, h5] at ns; cases ns
  have fs : H6 s = some (.lst []) := (k6 s zs).trans upd_same
  have fc : H6 c = some (.lst []) := (k6 c zc).trans (same_new ns _ _ fc)
  have fg : H6 g = some (.lst []) := (k6 g zg).trans (same_new ns _ _ fg)
  have fw : H6 w = some (.lst []) := (k6 w zw).trans (same_new ns _ _ fw)
  refine ⟨lineOf (by show 0 ≤ 1000; decide), fun k nk => ⟨_, rfl, r_put 6 (same_new nk _ _ h6) l6 (by decide) T.c_Program T.n_Program_codes fun H7 h7 l7 k7 => ?_⟩⟩
  have dck : c ≠ k := fun e => by rw [← e, fc] at nk; cases nk
  have dgk : g ≠ k := fun e => by rw [← e, fg] at nk; cases nk
  have dwk : w ≠ k := fun e => by rw [← e, fw] at nk; cases nk
  have dsk : s ≠ k := fun e => by rw [← e, fs] at nk; cases nk
  have s7 : Same H0 H7 := same_put nA (s6.trans (same_new nk)) k7
  have zk : k ≠ a := fun e => by rw [e, h6] at nk; cases nk
  have fk : H7 k = some (.lst []) := (k7 k zk).trans upd_same
  have fc : H7 c = some (.lst []) := (k7 c zc).trans (same_new nk _ _ fc)
  have fg : H7 g = some (.lst []) := (k7 g zg).trans (same_new nk _ _ fg)
  have fw : H7 w = some (.lst []) := (k7 w zw).trans (same_new nk _ _ fw)
  have fs : H7 s = some (.lst []) := (k7 s zs).trans (same_new nk _ _ fs)
  refine q H7 ⟨a, dx, c, g, w, s, k⟩ rfl { ins := h7.trans (congrArg (fun z => some (HO.ins (cProg K) dx z)) (by kernel_rfl)), npr := nA, same := s7, hc := fc, hg := fg, hw := fw, hs := fs, hk := fk, nc := s2.free nc, ng := s3.free ng, nw := s4.free nw, ns := s5.free ns, nk := s6.free nk, dcg := dcg, dcw := dcw, dcs := dcs, dck := dck, dgw := dgw, dgs := dgs, dgk := dgk, dws := dws, dwk := dwk, dsk := dsk }
  · rintro vs H Q ⟨rfl, q⟩ a dx na nd ne
    exact ⟨_, rfl, H, a, dx, rfl, na, made_same na nd fun b o h _ => h, upd_same, fun H' L e B => ⟨rfl, by rw [← e]; exact q H' L B⟩⟩
end
end CT


namespace CT
open PySem PySem.Spec PyProof.Rows L2
/-- how a checking ends -/
def Out {α : Type} (r : R7285d.Spec.Res α) (ok : α → Prop) (err : R7285d.Spec.Err → Prop) : Prop := match r with
  | .ok a => ok a
  | .error e => err e
theorem each_step {α : Type} {f : Units → R7285d.Spec.Plain → R7285d.Spec.Res α} {p : Units} {k : Nat} {x : R7285d.Spec.Plain} {r : List R7285d.Spec.Plain} {ds : List α} {res : R7285d.Spec.Res (List α)}
    (h : res = R7285d.Spec.andThen (R7285d.Spec.eachAt f p k (x :: r)) fun l => .ok (ds ++ l)) :
    (∀ e, f (R7285d.Spec.item p k) x = .error e → res = .error e) ∧ ∀ b, f (R7285d.Spec.item p k) x = .ok b → res = R7285d.Spec.andThen (R7285d.Spec.eachAt f p (k + 1) r) fun l => .ok ((ds ++ [b]) ++ l) := by
  rw [h]
  refine ⟨fun e he => ?_, fun b hb => ?_⟩
  · show R7285d.Spec.andThen (R7285d.Spec.andThen (f (R7285d.Spec.item p k) x) _) _ = _
    rw [he]
    rfl
  · show R7285d.Spec.andThen (R7285d.Spec.andThen (f (R7285d.Spec.item p k) x) _) _ = _
    rw [hb]
    show R7285d.Spec.andThen (R7285d.Spec.andThen (R7285d.Spec.eachAt f p (k + 1) r) _) _ = _
    cases R7285d.Spec.eachAt f p (k + 1) r with
    | error e => rfl
    | ok l =>
      show Except.ok (ds ++ (b :: l)) = Except.ok ((ds ++ [b]) ++ l)
      rw [List.append_assoc]
      rfl
/-- a place of the program's text: an element -/
theorem item_txt {z : PySem.Str} {p : Units} (h : txt z = uo (p ++ R7285d.Spec.units "[")) {k : Nat} (hk : k ≤ 40) : txt (z ++ decS k ++ "]") = uo (R7285d.Spec.item p k) := by
  obtain ⟨_, _, e⟩ := decS_ok hk
  have e2 : txt (PySem.Str.ofString "]") = uo (R7285d.Spec.units "]") := by decide +kernel
  rw [txt_app, txt_app, h, e, e2]
  unfold R7285d.Spec.item
  rw [uo_app, uo_app, uo_app, uo_app]
  rfl
theorem bad_txt {z w : PySem.Str} {p : Units} {m : String} (h : txt z = uo p) (hm : txt w = uo (R7285d.Spec.units m)) : txt (z ++ ": " ++ w) = uo (p ++ R7285d.Spec.units ": " ++ R7285d.Spec.units m) := by
  have e2 : txt (PySem.Str.ofString ": ") = uo (R7285d.Spec.units ": ") := by decide +kernel
  rw [txt_app, txt_app, h, hm, e2, uo_app, uo_app]
theorem dot_txt {z n : PySem.Str} {p : Units} {name : String} (h : txt z = uo p) (hn : txt n = uo (R7285d.Spec.units ("." ++ name))) : txt (z ++ n) = uo (R7285d.Spec.dot p name) := by
  unfold R7285d.Spec.dot
  rw [txt_app, h, hn, uo_app]
theorem betw_txt {z : PySem.Str} {p : Units} (h : txt z = uo p) {a b : Nat} (ha : a ≤ 40) (hb : b ≤ 40) : txt (z ++ ": " ++ betw a b) = uo (p ++ R7285d.Spec.units ": expected an integer from " ++ R7285d.Spec.decimal a ++ R7285d.Spec.units " to " ++ R7285d.Spec.decimal b) := by
  obtain ⟨_, _, e1⟩ := decS_ok ha
  obtain ⟨_, _, e2⟩ := decS_ok hb
  have e3 : txt (PySem.Str.ofString ": ") ++ txt (PySem.Str.ofString "expected an integer from ") = uo (R7285d.Spec.units ": expected an integer from ") := by decide +kernel
  have e4 : txt (PySem.Str.ofString " to ") = uo (R7285d.Spec.units " to ") := by decide +kernel
  unfold betw
  rw [txt_app, txt_app, txt_app, txt_app, txt_app, h, e1, e2, e4, uo_app, uo_app, uo_app, uo_app, ← e3]
  simp only [List.append_assoc]
  rfl
def natO : RWire.Value → R7285d.Spec.Res Nat
  | .int i => .ok i.toNat
  | _ => .error ⟨.typeError, []⟩
theorem num_bt {v : RWire.Value} (g : goodV v) {a b : Nat} {p : Units} : R7285d.Spec.numberAt a b p (Rust.taken v) = if isBt v a b = true then natO v else .error ⟨.typeError, p ++ R7285d.Spec.units ": expected an integer from " ++ R7285d.Spec.decimal a ++ R7285d.Spec.units " to " ++ R7285d.Spec.decimal b⟩ := by
  unfold R7285d.Spec.numberAt
  rw [integerIn_bt g]
  by_cases c : isBt v a b = true
  · rw [if_pos c, if_pos c]
    cases v with
    | int i => rfl
    | _ => cases c
  · rw [if_neg c, if_neg c]
theorem not_arr {v : RWire.Value} (g : goodV v) (h : kindN v ≠ 7) {p : Units} {lo hi : Nat} {m : String} : R7285d.Spec.arrayAt p lo hi m (Rust.taken v) = R7285d.Spec.bad p m := by
  cases v with
  | list l => exact absurd rfl h
  | octets u => cases g.2.1
  | _ => rw [Rust.taken]; rfl
theorem not_obj {v : RWire.Value} (g : goodV v) (h : kindN v ≠ 8) {p : Units} : R7285d.Spec.objectAt p (Rust.taken v) = R7285d.Spec.bad p "expected an object" := by
  cases v with
  | record l => exact absurd rfl h
  | octets u => cases g.2.1
  | _ => rw [Rust.taken]; rfl
def sharedR (lo : Nat) (v : RWire.Value) : R7285d.Spec.Res (List R7285d.Spec.SharedD) := R7285d.Spec.andThen (R7285d.Spec.arrayAt (R7285d.Spec.units "description.shared") 0 6 "expected an array of at most 6 elements" (Rust.taken v)) fun l => R7285d.Spec.eachAt (R7285d.Spec.sharedAt lo) (R7285d.Spec.units "description.shared") 0 l
section
variable {P : Program} {w : World} {K : PySem.W.Frag} {mg : PySem.Str → Option Value} {base : Heap}
def spReadShared (K : PySem.W.Frag) : Sp := sp2 fun x y H Q E => ∃ F v H0 L pq, (VAt K F v y ∧ Same F H0 ∨ v = .nothing ∧ VAt K H .nothing y) ∧ goodV v ∧ x = .ref L.pr ∧ PB K H0 H L pq ∧ 1 ≤ pq.lo ∧ pq.lo ≤ 4 ∧ pq.cv = [] ∧ pq.gv = [] ∧
  Out (sharedR pq.lo v) (fun ds => ∀ H', PB K H0 H' L { pq with cv := ds.map (·.value), gv := ds.map (·.guard) } → Q .non H') fun e => RefuE K H0 e E
abbrev n_read_shared : List PySem.Str := ["program", "value", "is_good", "at", "row", "place", "content"]
theorem sc_read_shared : FnScope n_read_shared ["program", "value"] d_read_shared.scope := ⟨rfl, rfl, rfl, by decide +kernel, rfl, by decide +kernel, by decide +kernel⟩
theorem c_read_shared (T : Tx w K mg) : Cal (XN P w) P w K mg base 6 "read_shared" (spReadShared K) := by
  refine cal_mk T.fd_read_shared T.g_read_shared sc_read_shared (fun _ _ _ _ _ _ us hl => match us, hl with | [_, _], _ => rfl) (fun _ _ _ _ h => sp2_len h) (fun f cdv A outer s H vs Q E hr h => ?_)
  obtain ⟨_, y, rfl, F, v, H0, L, pq, hvv, gv, rfl, B, l1, l4, ec, eg, q⟩ := h
  refine ⟨_, (pss_cons (ps_set (i := 2) sc_read_shared.nd rfl (Or.inl rfl) (pe_and (pe_cmpR op_eq (pe_fld (pv 1) rfl) (pe_gi T.i_LIST rfl) (nomark _)) (pe_one (pe_cmpR op_le (pe_callB call_len_seq rfl T.f_len boot_len (pa_cons (pe_fld (pv 1) rfl) pa_nil)) (pe_gi T.i_MOST_SHARED rfl) (nomark _)))))
      (pss_cons (ps_expr (pe_cal (c_expect T) hr (by decide) rfl passX (pa_cons (pv 2) (pa_cons pe_str (pa_cons pe_str pa_nil)))))
      (pss_one (ps_for (passes_of rfl) rfl (pi_enum rfl T.f_enumerate (pa_cons (pe_fld (pv 1) rfl) pa_nil)) (pg_tup rfl (pgs_cons (pg_name (i := 3) sc_read_shared.nd rfl (Or.inl rfl)) (pgs_cons (pg_name (i := 4) sc_read_shared.nd rfl (Or.inl rfl)) pgs_nil))) (pss_cons (ps_set (i := 5) sc_read_shared.nd rfl (Or.inl rfl) (pe_op op_add_str (pe_op op_add_str pe_str (pe_callTy call_str_int rfl T.f_str (by decide +kernel) (pa_cons (pv 3) pa_nil))) pe_str))
      (pss_cons (ps_expr (pe_cal (c_expect T) hr (by decide) rfl passX (pa_cons (pe_cmpR op_eq (pe_fld (pv 4) rfl) (pe_gi T.i_RECORD rfl) (nomark _)) (pa_cons (pv 5) (pa_cons pe_str pa_nil)))))
      (pss_cons (ps_set (i := 6) sc_read_shared.nd rfl (Or.inl rfl) (pe_cal (c_member T) hr (by decide) rfl passC (pa_cons (pv 4) (pa_cons pe_str pa_nil))))
      (pss_cons (ps_set (i := 2) sc_read_shared.nd rfl (Or.inl rfl) (pe_cal (c_is_between T) hr (by decide) rfl passC (pa_cons (pv 6) (pa_cons (pe_gi T.i_LEAST_WORD rfl) (pa_cons (pe_gi T.i_GREATEST_WORD rfl) pa_nil)))))
      (pss_cons (ps_expr (pe_cal (c_expect T) hr (by decide) rfl passX (pa_cons (pv 2) (pa_cons (pe_op op_add_str (pv 5) pe_str) (pa_cons pe_str pa_nil)))))
      (pss_cons (ps_expr (pe_bm PySem.F.plainAttrs_list PySem.F.slot_list_append PySem.F.type_list_append mt_append (pe_fld (pv 0) rfl) (pa_cons (pe_fld (pv 6) rfl) pa_nil)))
      (pss_one (ps_expr (pe_bm PySem.F.plainAttrs_list PySem.F.slot_list_append PySem.F.type_list_append mt_append (pe_fld (pv 0) rfl) (pa_cons (pe_cal (c_expect_number T) hr (by decide) rfl passX (pa_cons (pe_cal (c_member T) hr (by decide) rfl passC (pa_cons (pv 4) (pa_cons pe_str pa_nil))) (pa_cons (pe_op op_add_str (pv 5) pe_str) (pa_cons pe_int (pa_cons (pe_op op_sub (pe_fld (pv 0) rfl) pe_int) pa_nil))))) pa_nil)))))))))))))), ?_⟩
  have pl : txt (PySem.Str.ofString "description.shared") = uo (R7285d.Spec.units "description.shared") := by decide +kernel
  have ml : txt (PySem.Str.ofString "expected an array of at most 6 elements") = uo (R7285d.Spec.units "expected an array of at most 6 elements") := by decide +kernel
  rcases hvv with ⟨hv, sF⟩ | ⟨rfl, ⟨a, dx, rfl, hA⟩⟩
  rotate_left
  · have er : sharedR pq.lo .nothing = .error ⟨.typeError, R7285d.Spec.units "description.shared" ++ R7285d.Spec.units ": " ++ R7285d.Spec.units "expected an array of at most 6 elements"⟩ := by
      unfold sharedR
      rw [Rust.taken]
      rfl
    rw [er] at q
    refine ⟨_, rfl, r_fld hA T.c_Value T.n_Value_kind vF_kind ⟨rfl, _, rfl, if_f (by decide) ?_⟩⟩
    refine ⟨_, rfl, _, _, _, rfl, false, _, _, rfl, rfl, rfl, by decide +kernel, by decide +kernel, by decide +kernel, by decide +kernel, (fun z => by cases z), fun _ => ?_⟩
    exact (RefuE.up q B.same).of (bad_txt pl ml)
  obtain ⟨hd, a, dx, rfl, ha⟩ := vat_kind hv
  have hA := B.same _ _ (sF _ _ ha)
  have nope : ∀ o3 o4 o5 o6, sharedR pq.lo v = .error ⟨.typeError, R7285d.Spec.units "description.shared" ++ R7285d.Spec.units ": " ++ R7285d.Spec.units "expected an array of at most 6 elements"⟩ →
      ∀ rest, tDrop (tCallS (spExpect K) (fun σ => E) (tCons (tVar 2) (tCons (tC (V.str "description.shared")) (tCons (tC (V.str "expected an array of at most 6 elements")) tNil)))) rest [some (.ref L.pr), some (.ref a), some (.bl false), o3, o4, o5, o6] H := fun o3 o4 o5 o6 er rest => by
    rw [er] at q
    refine ⟨_, rfl, _, _, _, rfl, false, _, _, rfl, rfl, rfl, by decide +kernel, by decide +kernel, by decide +kernel, by decide +kernel, (fun z => by cases z), fun _ => ?_⟩
    exact (q.up B.same).of (bad_txt pl ml)
  refine ⟨_, rfl, r_fld hA T.c_Value T.n_Value_kind vF_kind ⟨rfl, _, rfl, ?_⟩⟩
  cases hl : decide (V.int (kindN v) = V.int 7) with
  | false => exact if_f rfl (nope _ _ _ _ (by
      unfold sharedR
      rw [not_arr gv (fun e => by rw [e] at hl; simp at hl)]
      rfl) _)
  | true =>
  obtain ⟨l, rfl⟩ : ∃ l, v = .list l := by
    cases v with
    | list l => exact ⟨l, rfl⟩
    | bool b => cases b <;> simp [kindN] at hl
    | _ => simp [kindN] at hl
  obtain ⟨p, xs, ⟨a', dx', e, ha'⟩, hp, hxs⟩ := hv
  cases e
  have hA' := B.same _ _ (sF _ _ ha')
  have hP := B.same _ _ (sF _ _ hp)
  have gl : goodL l := goodL_of (by simpa [RWire.noBig] using gv.1) (by simpa [RWire.noOctets] using gv.2.1) (by simpa [RWire.noWide] using gv.2.2)
  have tk : Rust.taken (.list l) = .arr (l.map Rust.taken) := by rw [Rust.taken, takenAll_map]
  refine if_t rfl ⟨_, rfl, r_fld hA' T.c_Value T.n_Value_held vF_held ⟨p, _, rfl, .inl (SqL.of hP), _, _, rfl, rfl, ?_⟩⟩
  rw [hxs.len]
  by_cases c6 : l.length ≤ 6
  rotate_left
  · dsimp only
    rw [decide_eq_false (by omega)]
    exact nope _ _ _ _ (by
      unfold sharedR
      rw [tk]
      show R7285d.Spec.andThen (if 0 ≤ (l.map Rust.taken).length ∧ (l.map Rust.taken).length ≤ 6 then _ else _) _ = _
      rw [if_neg (by rw [List.length_map]; omega)]
      rfl) _
  dsimp only
  rw [decide_eq_true (by omega)]
  have er : sharedR pq.lo (.list l) = R7285d.Spec.andThen (R7285d.Spec.eachAt (R7285d.Spec.sharedAt pq.lo) (R7285d.Spec.units "description.shared") 0 (l.map Rust.taken)) fun r => .ok ([] ++ r) := by
    unfold sharedR
    rw [tk]
    show R7285d.Spec.andThen (if 0 ≤ (l.map Rust.taken).length ∧ (l.map Rust.taken).length ≤ 6 then _ else _) _ = _
    rw [if_pos (by rw [List.length_map]; omega)]
    show R7285d.Spec.eachAt _ _ _ _ = _
    cases R7285d.Spec.eachAt (R7285d.Spec.sharedAt pq.lo) (R7285d.Spec.units "description.shared") 0 (l.map Rust.taken) <;> rfl
  refine ⟨_, rfl, _, _, _, rfl, true, _, _, rfl, rfl, rfl, by decide +kernel, by decide +kernel, by decide +kernel, by decide +kernel, fun _ => ?_, fun z => by cases z⟩
  refine ⟨_, rfl, r_fld hA' T.c_Value T.n_Value_held vF_held ⟨p, _, rfl, SqL.of hP, ?_⟩⟩
  refine for_it walk_enum (fun i σ H1 => ∃ ds : List R7285d.Spec.SharedD, ds.length = i ∧ PB K H0 H1 L { pq with cv := ds.map (·.value), gv := ds.map (·.guard) } ∧ sharedR pq.lo (.list l) = R7285d.Spec.andThen (R7285d.Spec.eachAt (R7285d.Spec.sharedAt pq.lo) (R7285d.Spec.units "description.shared") i ((l.drop i).map Rust.taken)) (fun r => .ok (ds ++ r)) ∧
      ∃ o2 o3 o4 o5 o6, σ = [some (.ref L.pr), some (.ref a), o2, o3, o4, o5, o6]) ⟨[], rfl, ?_, er, _, _, _, _, _, rfl⟩ (fun i σ H1 _ ⟨ds, _, B1, _⟩ => SqL.of (B1.same _ _ (sF _ _ hp))) ?_ ?_
  · have : ({ pq with cv := ([] : List R7285d.Spec.SharedD).map (·.value), gv := ([] : List R7285d.Spec.SharedD).map (·.guard) } : PVal) = pq := by
      cases pq
      simp only at ec eg
      subst ec eg
      rfl
    rw [this]
    exact B
  · rintro i t σ H1 H2 hi ⟨ds, lds, B1, er1, o2, o3, o4, o5, o6, rfl⟩ ⟨Tt, x0, y0, rfl, nT, rfl, e1, e2⟩
    cases e1
    have e2' : xs[i]? = some y0 := e2
    obtain ⟨u, gu, hu⟩ := hxs.get e2'
    have ggu := gl u (List.mem_of_getElem? gu)
    have hi' : i < l.length := (List.getElem?_eq_some_iff.mp gu).1
    have sT := same_new (o := .tup [.int (i : Nat), y0]) nT
    have B2 := B1.up sT
    have dr : l.drop i = u :: l.drop (i + 1) := by
      rw [List.drop_eq_getElem_cons hi']
      have : l[i] = u := (List.getElem?_eq_some_iff.mp gu).2
      rw [this]
    rw [dr, List.map_cons] at er1
    obtain ⟨bad, good⟩ := each_step er1
    have out : ∀ e : R7285d.Spec.Err, sharedR pq.lo (.list l) = .error e → RefuE K H0 e E := fun e h => by
      rw [h] at q
      exact q
    refine ⟨Tt, _, rfl, SqT.of upd_same, rfl, _, _, rfl, _, _, rfl, rfl, ?_⟩
    have i40 : i ≤ 40 := by omega
    obtain ⟨z1, z2, _⟩ := decS_ok i40
    have e0 : (PySem.Str.ofString "description.shared[").cps.size = 19 := by decide +kernel
    have e1 : (PySem.Str.ofString "]").cps.size = 1 := by decide +kernel
    have pt : txt (PySem.Str.ofString "description.shared[" ++ decS i ++ PySem.Str.ofString "]") = uo (R7285d.Spec.item (R7285d.Spec.units "description.shared") i) := item_txt (by decide +kernel) i40
    have pb : byteS (PySem.Str.ofString "description.shared[" ++ decS i ++ PySem.Str.ofString "]") := byteS_app (byteS_app (by decide +kernel) z2) (by decide +kernel)
    have psz : (PySem.Str.ofString "description.shared[" ++ decS i ++ PySem.Str.ofString "]").cps.size ≤ 30 := by
      rw [app_size, app_size, e0, e1]
      omega
    refine ⟨_, rfl, _, rfl, small_log i40, _, _, rfl, rfl, str_line (by
      show _ + (decS i).cps.size ≤ _
      rw [e0]
      omega), _, _, rfl, rfl, str_line (by
      show (PySem.Str.ofString "description.shared[" ++ decS i).cps.size + _ ≤ _
      rw [app_size, e0, e1]
      omega), ?_⟩
    generalize hps : PySem.Str.ofString "description.shared[" ++ decS i ++ PySem.Str.ofString "]" = ps at pt pb psz
    have hps' : PySem.Str.ofString "description.shared[" ++ PySem.Str.ofString (toString ((i : Nat) : Int)) ++ PySem.Str.ofString "]" = ps := hps
    rw [hps']
    obtain ⟨hd2, a2, dx2, rfl, ha2⟩ := vat_kind hu
    have hA2 := B2.same _ _ (sF _ _ ha2)
    refine ⟨_, rfl, r_fld hA2 T.c_Value T.n_Value_kind vF_kind ⟨rfl, _, rfl, _, _, _, rfl, decide (V.int (kindN u) = V.int 8), ps, _, rfl, rfl, rfl, by omega, pb, by decide +kernel, by decide +kernel, fun hb => ?_, fun hb => ?_⟩⟩
    rotate_left
    · refine ((out _ (bad _ ?_)).up B2.same).of (bad_txt (m := "expected an object") pt (by decide +kernel))
      unfold R7285d.Spec.sharedAt
      rw [not_obj ggu (fun e => by rw [e] at hb; simp at hb)]
      rfl
    obtain ⟨fs, rfl⟩ : ∃ fs, u = .record fs := by
      cases u with
      | record l => exact ⟨l, rfl⟩
      | bool b => cases b <;> simp [kindN] at hb
      | _ => simp [kindN] at hb
    have gfs : goodE fs := goodE_of (by simpa [RWire.noBig] using ggu.1) (by simpa [RWire.noOctets] using ggu.2.1) (by simpa [RWire.noWide] using ggu.2.2)
    have tv : txt (PySem.Str.ofString "value") = uo (R7285d.Spec.units "value") := by decide +kernel
    have tl : txt (PySem.Str.ofString "lock") = uo (R7285d.Spec.units "lock") := by decide +kernel
    have fv : R7285d.Spec.field (Rust.takenFields fs) "value" = Rust.taken (memb fs (txt "value")) := by rw [field_memb (by unfold narrowU; decide +kernel), tv]
    have fl : R7285d.Spec.field (Rust.takenFields fs) "lock" = Rust.taken (memb fs (txt "lock")) := by rw [field_memb (by unfold narrowU; decide +kernel), tl]
    have sh : R7285d.Spec.sharedAt pq.lo (R7285d.Spec.item (R7285d.Spec.units "description.shared") i) (Rust.taken (.record fs)) = R7285d.Spec.andThen (R7285d.Spec.wordAt (R7285d.Spec.dot (R7285d.Spec.item (R7285d.Spec.units "description.shared") i) "value") (Rust.taken (memb fs (txt "value")))) fun z =>
        R7285d.Spec.andThen (R7285d.Spec.numberAt 0 (pq.lo - 1) (R7285d.Spec.dot (R7285d.Spec.item (R7285d.Spec.units "description.shared") i) "lock") (Rust.taken (memb fs (txt "lock")))) fun l => .ok ⟨z, l⟩ := by
      rw [← fv, ← fl]
      unfold R7285d.Spec.sharedAt
      rw [Rust.taken]
      rfl
    refine ⟨_, rfl, _, _, rfl, F, fs, "value", hu, sF.trans B2.same, rfl, by decide +kernel, by decide +kernel, fun H3 cv s3 hcv => ?_⟩
    have gc := memb_good gfs (txt "value")
    obtain ⟨F3, hc, sF3⟩ : ∃ F3, VAt K F3 (memb fs (txt "value")) cv ∧ Same F3 H3 := by
      rcases hcv with h | ⟨h1, h2⟩
      · exact ⟨F, h, sF.trans (B2.same.trans s3)⟩
      · exact ⟨H3, by rw [h1]; exact h2, Same.refl _⟩
    have B3 := B2.up s3
    refine ⟨_, rfl, _, _, _, rfl, F3, _, _, _, hc, sF3, rfl, rfl, ?_⟩
    have z5 : (PySem.Str.ofString ".value").cps.size = 6 := by decide +kernel
    refine ⟨_, rfl, _, rfl, _, _, rfl, rfl, str_line (by rw [z5]; omega), _, _, _, rfl, _, ps ++ PySem.Str.ofString ".value", _, rfl, rfl, rfl, by rw [app_size, z5]; omega, byteS_app pb (by decide +kernel), by decide +kernel, by decide +kernel, fun hb => ?_, fun hb => ?_⟩
    rotate_left
    · refine ((out _ (bad _ ?_)).up B3.same).of (bad_txt (m := "expected a 32-bit integer") (dot_txt (name := "value") pt (by decide +kernel)) (by decide +kernel))
      rw [sh]
      unfold R7285d.Spec.wordAt
      rw [intIn_bt gc, hb]
      rfl
    obtain ⟨z, ez⟩ : ∃ z, memb fs (txt "value") = .int z := by
      cases hm : memb fs (txt "value") with
      | int z => exact ⟨z, rfl⟩
      | _ => rw [hm] at hb; cases hb
    have hw : R7285d.Spec.wordAt (R7285d.Spec.dot (R7285d.Spec.item (R7285d.Spec.units "description.shared") i) "value") (Rust.taken (memb fs (txt "value"))) = .ok z := by
      unfold R7285d.Spec.wordAt
      rw [intIn_bt gc, hb, ez]
      rfl
    rw [hw] at sh
    rw [ez] at hc
    obtain ⟨a3, dx3, rfl, ha3⟩ := hc
    refine ⟨_, rfl, r_fld B3.ins T.c_Program T.n_Program_contents pF_contents ⟨.inl ⟨rfl, _, SqL.of B3.hc⟩, _, rfl, r_fld (sF3 _ _ ha3) T.c_Value T.n_Value_held vF_held ⟨L.c, _, _, rfl, rfl, B3.hc, lt_line (by rw [List.length_map, List.length_map]; omega), ?_⟩⟩⟩
    have B4 := B3.app_c z
    refine ⟨_, rfl, r_fld B4.ins T.c_Program T.n_Program_guards pF_guards ⟨.inl ⟨rfl, _, SqL.of B4.hg⟩, _, rfl, _, _, rfl, F, fs, "lock", hu, sF.trans B4.same, rfl, by decide +kernel, by decide +kernel, fun H5 lv s5 hlv => ?_⟩⟩
    have gl2 := memb_good gfs (txt "lock")
    obtain ⟨F5, hlk, sF5⟩ : ∃ F5, VAt K F5 (memb fs (txt "lock")) lv ∧ Same F5 H5 := by
      rcases hlv with h | ⟨h1, h2⟩
      · exact ⟨F, h, sF.trans (B4.same.trans s5)⟩
      · exact ⟨H5, by rw [h1]; exact h2, Same.refl _⟩
    have B5 := B4.up s5
    have z6 : (PySem.Str.ofString ".lock").cps.size = 5 := by decide +kernel
    have num : R7285d.Spec.numberAt 0 (pq.lo - 1) (R7285d.Spec.dot (R7285d.Spec.item (R7285d.Spec.units "description.shared") i) "lock") (Rust.taken (memb fs (txt "lock"))) = if isBt (memb fs (txt "lock")) (0 : Nat) (pq.lo - 1 : Nat) = true then natO (memb fs (txt "lock")) else .error ⟨.typeError, R7285d.Spec.dot (R7285d.Spec.item (R7285d.Spec.units "description.shared") i) "lock" ++ R7285d.Spec.units ": expected an integer from " ++ R7285d.Spec.decimal 0 ++ R7285d.Spec.units " to " ++ R7285d.Spec.decimal (pq.lo - 1)⟩ := num_bt gl2
    refine ⟨_, rfl, _, _, rfl, rfl, str_line (by rw [z6]; omega), _, rfl, r_fld B5.ins T.c_Program T.n_Program_locks pF_locks ⟨_, _, rfl, rfl, _, _, _, _, rfl, F5, _, ps ++ PySem.Str.ofString ".lock", 0, pq.lo - 1, hlk, sF5, rfl, rfl, congrArg V.int (by show (pq.lo : Int) - 1 = ((pq.lo - 1 : Nat) : Int); omega), by omega, by omega, by rw [app_size, z6]; omega, byteS_app pb (by decide +kernel), fun g hg h0 h1 => ?_, fun hb => ?_⟩⟩
    · rw [hg] at num
      have bt : isBt (.int (g : Int)) (0 : Nat) (pq.lo - 1 : Nat) = true := by
        show (decide (((0 : Nat) : Int) ≤ (g : Int)) && decide ((g : Int) ≤ ((pq.lo - 1 : Nat) : Int))) = true
        simp only [Bool.and_eq_true, decide_eq_true_eq]
        omega
      rw [if_pos bt] at num
      rw [hg, num] at sh
      have er2 := good _ sh
      refine ⟨L.g, _, _, rfl, rfl, B5.hg, lt_line (by rw [List.length_map, List.length_map]; omega), ds ++ [⟨z, g⟩], by simp [lds], ?_, er2, _, _, _, _, _, rfl⟩
      have B6 := B5.app_g g
      simp only [List.map_append, List.map_cons, List.map_nil]
      exact B6
    · refine ((out _ (bad _ ?_)).up B5.same).of (betw_txt (dot_txt (name := "lock") pt (by decide +kernel)) (by omega) (by omega))
      rw [sh, num, hb]
      rfl
  · rintro σ H1 ⟨ds, lds, B1, er1, o2, o3, o4, o5, o6, rfl⟩
    rw [hxs.len, List.drop_length] at er1
    have er1 : sharedR pq.lo (.list l) = .ok (ds ++ []) := er1
    rw [er1, List.append_nil] at q
    exact q H1 B1
end
end CT


namespace CT
open PySem PySem.Spec PyProof.Rows L2
theorem room_dget {k : Nat} {A : Around} (r : Room k A) : A.units + 1 < cLine := by have := r.un; omega
/-- the signs of the operands -/
inductive Sg where
  | r | z | k | v | l | c | t
def Sg.str : Sg → PySem.Str
  | .r => "r"
  | .z => "z"
  | .k => "k"
  | .v => "v"
  | .l => "l"
  | .c => "c"
  | .t => "t"
/-- the bounds of an operand: of so many locks, conditions, shared variables, threads, instructions -/
def bndLo : Sg → Int
  | .z => -2147483648
  | _ => 0
def bndHi (lo co sh th len : Nat) : Sg → Int
  | .r => 3
  | .z => 2147483647
  | .k => len
  | .v => (sh : Int) - 1
  | .l => (lo : Int) - 1
  | .c => (co : Int) - 1
  | .t => (th : Int) - 1
section
variable {P : Program} {w : World} {K : PySem.W.Frag} {mg : PySem.Str → Option Value} {base : Heap}
def spBoundsOf (K : PySem.W.Frag) : Sp := sp4 fun x y z u H Q _ => ∃ H0 L pq, ∃ sg : Sg, ∃ th len : Nat, x = .str sg.str ∧ y = .ref L.pr ∧ z = natV th ∧ u = natV len ∧ PB K H0 H L pq ∧
  ∀ H' a, Same H H' → H' a = some (.tup [.int (bndLo sg), .int (bndHi pq.lo pq.co pq.cv.length th len sg)]) → Q (.ref a) H'
abbrev n_bounds_of : List PySem.Str := ["sign", "program", "threads", "length", "tops"]
theorem sc_bounds_of : FnScope n_bounds_of ["sign", "program", "threads", "length"] d_bounds_of.scope := ⟨rfl, rfl, rfl, by decide +kernel, rfl, by decide +kernel, by decide +kernel⟩
theorem c_bounds_of (T : Tx w K mg) : Cal (CX0) P w K mg base 1 "bounds_of" (spBoundsOf K) := by
  refine cal_mk T.fd_bounds_of T.g_bounds_of sc_bounds_of (fun _ _ _ _ _ _ us hl => match us, hl with | [_, _, _, _], _ => rfl) (fun _ _ _ _ h => sp4_len h) (fun f cdv A outer s H vs Q E hr h => ?_)
  obtain ⟨_, _, _, _, rfl, H0, L, pq, sg, th, len, rfl, rfl, rfl, rfl, B, q⟩ := h
  refine ⟨_, PSs.nox ((pss_cons (ps_if (pt_cmpR op_eq (pv 0) pe_str (nomark _)) (pss_one (ps_ret (pe_tup (pa_cons (pe_gi T.i_LEAST_WORD rfl) (pa_cons (pe_gi T.i_GREATEST_WORD rfl) pa_nil))))) pss_nil)
      (pss_cons (ps_set (i := 4) sc_bounds_of.nd rfl (Or.inl rfl) (pe_disp (pps_cons pe_str (pe_gi T.i_LAST_REGISTER rfl) (pps_cons pe_str (pv 3) (pps_cons pe_str (pe_op op_sub (pe_callB call_len_seq rfl T.f_len boot_len (pa_cons (pe_fld (pv 1) rfl) pa_nil)) pe_int) (pps_cons pe_str (pe_op op_sub (pe_fld (pv 1) rfl) pe_int) (pps_cons pe_str (pe_op op_sub (pe_fld (pv 1) rfl) pe_int) (pps_cons pe_str (pe_op op_sub (pv 2) pe_int) pps_nil)))))) rfl rfl (by simp) (by decide)))
      (pss_one (ps_ret (pe_tup (pa_cons pe_int (pa_cons (pe_dget (room_dget hr) (pv 4) (pv 0) (fun _ _ => rfl)) pa_nil)))))))), ?_⟩
  by_cases hz : sg = .z
  · subst hz
    refine r_is rfl ?_ ⟨lineOf (by show 2 ≤ 1000; decide), fun a na => q _ a (same_new na) upd_same⟩
    kernel_rfl
  · refine r_no rfl (by cases sg <;> first | exact absurd rfl hz | kernel_rfl) ?_
    refine fun p np => ?_
    have sp := same_new (o := .dK []) np
    have B1 := B.up sp
    refine ⟨_, rfl, _, rfl, r_fld B1.ins T.c_Program T.n_Program_contents pF_contents ⟨L.c, _, rfl, .inl (SqL.of B1.hc), _, _, rfl, rfl, ?_⟩⟩
    refine ⟨_, rfl, r_fld B1.ins T.c_Program T.n_Program_locks pF_locks ⟨_, _, rfl, rfl, ?_⟩⟩
    refine ⟨_, rfl, r_fld B1.ins T.c_Program T.n_Program_conditions pF_conditions ⟨_, _, rfl, rfl, ?_⟩⟩
    refine ⟨_, rfl, _, _, rfl, rfl, upd_same, [(.inr "r", .int 3), (.inr "k", natV len), (.inr "v", .int ((pq.cv.length : Nat) - 1)), (.inr "l", .int ((pq.lo : Nat) - 1)), (.inr "c", .int ((pq.co : Nat) - 1)), (.inr "t", .int ((th : Nat) - 1))], ?_, by show 6 ≤ 15; decide, ?_⟩
    · rw [List.length_map]
      rfl
    have md : ∀ a b c d e f : V, mergeK [] [(.inr ("r" : PySem.Str), a), (.inr "k", b), (.inr "v", c), (.inr "l", d), (.inr "c", e), (.inr "t", f)] = [(.inr "r", a), (.inr "k", b), (.inr "v", c), (.inr "l", d), (.inr "c", e), (.inr "t", f)] := fun a b c d e f => by kernel_rfl
    rw [md]
    have s2 : Same H (upd (upd H p (.dK [])) p (.dK [(.inr "r", .int 3), (.inr "k", natV len), (.inr "v", .int ((pq.cv.length : Nat) - 1)), (.inr "l", .int ((pq.lo : Nat) - 1)), (.inr "c", .int ((pq.co : Nat) - 1)), (.inr "t", .int ((th : Nat) - 1))])) := same_at np sp
    refine ⟨_, rfl, _, rfl, p, .int (bndHi pq.lo pq.co pq.cv.length th len sg), rfl, .inl ⟨_, .inr sg.str, Rd.of upd_same, rfl, ?_⟩, lineOf (by show 2 ≤ 1000; decide), fun a na => q _ a (s2.trans (same_new na)) ?_⟩
    · cases sg <;> first | exact absurd rfl hz | kernel_rfl
    · rw [upd_same]
      cases sg <;> first | exact absurd rfl hz | rfl
end
end CT


namespace CT
open PySem PySem.Spec PyProof.Rows L2
/-! ### the keys of a written dict, one by one -/
def ItS (ks : List PySem.Str) : It := ⟨fun i _ => i < ks.length, fun i H x H' => H' = H ∧ ∃ z, ks[i]? = some z ∧ x = .str z, fun i _ => ks.length ≤ i⟩
theorem walk_skeys {ks : List PySem.Str} : Walk (ItS ks) ks.length (fun _ => True) (fun i H x H' => H' = H ∧ ∃ z, ks[i]? = some z ∧ x = .str z) := ⟨fun _ _ h _ => h, fun _ _ => Nat.le_refl _, fun _ _ _ _ _ _ y => y⟩
/-- a written dict, its keys told -/
structure SKeys (w : World) (K : PySem.W.Frag) (d : Addr) (ks : List PySem.Str) (es : Array DictEntry) (ep : Nat) : Prop where
  look : K.lookup d = some ⟨.type "dict", none, .dict es ep, #[]⟩
  keys : es.toList.map He.keyOf = He.keysIn w.params ks
  nsys : (d == sysModules) = false
  nd : ks.Nodup
theorem pairs_of {P : Program} {w : World} : ∀ {l : List DictEntry} {ks : List PySem.Str}, l.map He.keyOf = He.keysIn w.params ks → Pairs (mixKind P w) l ((ks.map (Sum.inr : PySem.Str → Key)).zip (l.map (·.val))) ∧ ks.length = l.length ∧ ∀ e ∈ l, ∃ k, (mixKind P w).is k e.key = true ∧ e.hash = (mixKind P w).hash k
  | [], [], _ => ⟨.nil, rfl, fun e he => by cases he⟩
  | [], k :: ks, h => by cases h
  | e :: r, [], h => by cases h
  | e :: r, k :: ks, h => by
    have h1 : He.keyOf e :: r.map He.keyOf = some (k, PyData.keyHash w.params k) :: He.keysIn w.params ks := h
    injection h1 with h2 h3
    obtain ⟨p, l, q⟩ := pairs_of (P := P) h3
    unfold He.keyOf at h2
    split at h2
    · rename_i x t ek
      obtain ⟨h5, h6⟩ := Prod.mk.inj (Option.some.inj h2)
      subst h5
      have is : (mixKind P w).is (.inr x) e.key = true := by
        rw [ek]
        exact kV_is (k := .inr x) ⟨t, rfl⟩
      refine ⟨.cons is rfl p, by rw [List.length_cons, List.length_cons, l], fun e' he => ?_⟩
      rcases List.mem_cons.mp he with rfl | he
      · exact ⟨.inr x, is, h6⟩
      · exact q e' he
    · cases h2
theorem turn_skeys {P : Program} {w : World} {K : PySem.W.Frag} {tg : Expr} {d it : Addr} {ks : List PySem.Str} {es : Array DictEntry} {ep : Nat} (S : SKeys w K d ks es ep) : Turn P w K tg (ItS ks) [it] it (fun i h => h.IsKeyIter it d i ks.length ep) where
  mem := by simp
  obj := fun i h st b hb => by
    have e : b = it := by simpa using hb
    subst e
    obtain ⟨oi, e, c, dd⟩ := st
    exact ⟨oi, e, fun v z => by rw [dd] at z; cases z⟩
  keep := fun i h h' st k => st.at fun oi e => k it (by simp) oi e
  item := by
    intro X hP hw hK hc i pins s σ H E I hf st hg
    subst hP hw hK
    have hi : i < ks.length := hg
    obtain ⟨z, hz⟩ := get_lt hi
    obtain ⟨f0, f1, f2, f3, f4, f5⟩ := hf it (by simp)
    obtain ⟨pr, ll, kk⟩ := pairs_of (P := X.prog) S.keys
    have lz : ((ks.map (Sum.inr : PySem.Str → Key)).zip (es.toList.map (·.val))).length = ks.length := by
      rw [List.length_zip, List.length_map, List.length_map, ← ll, Nat.min_self]
    have at_ : s.heap.DictAt (mixKind X.prog X.w) d ((ks.map (Sum.inr : PySem.Str → Key)).zip (es.toList.map (·.val))) ep := by
      refine ⟨_, es, I.kIn _ _ S.look, ⟨rfl, rfl, rfl⟩, rfl, fun e he => ?_, pr, ?_⟩
      · obtain ⟨k, h1, h2⟩ := kk e (Array.mem_toList_iff.mpr he)
        exact ⟨k, h1, h2⟩
      · rw [List.map_fst_zip (by rw [List.length_map, List.length_map, ll]; exact Nat.le_refl _)]
        exact S.nd.map _ (fun a b n e => n (Sum.inr.inj e))
    obtain ⟨v, hv⟩ : ∃ v, ((ks.map (Sum.inr : PySem.Str → Key)).zip (es.toList.map (·.val)))[i]? = some (.inr z, v) := by
      obtain ⟨q, hq⟩ := get_lt (l := (ks.map (Sum.inr : PySem.Str → Key)).zip (es.toList.map (·.val))) (i := i) (by rw [lz]; exact hi)
      obtain ⟨q1, q2⟩ := q
      have h1 : (ks.map (Sum.inr : PySem.Str → Key))[i]? = some q1 := (List.getElem?_zip_eq_some.mp hq).1
      rw [List.getElem?_map, hz] at h1
      cases h1
      exact ⟨q2, hq⟩
    rw [← lz] at st
    refine wpAny_pyNext_dict_item st at_ hv fun key h' hkey st' sb => ?_
    have I1 : Inv X pins σ H { s with heap := h' } := I.turned (t' := s.toks) (fun b ob hb e => (sb.2 b hb).trans e) f0 f1 f3 f4 f5
    obtain ⟨oi, e, c, dd⟩ := id st'
    rw [lz] at st'
    exact ⟨key, rfl, go_of (s := { s with heap := h' }) e c dd (by decide) ⟨.str z, H, I1, relV_key (k := .inr z) hkey, ⟨rfl, z, hz, rfl⟩, st', fun b hb => (hf b hb).1⟩⟩
  done := by
    intro X hP hw hK hc i pins s σ H E I hf st hg
    subst hP hw hK
    obtain ⟨f0, f1, f2, f3, f4, f5⟩ := hf it (by simp)
    obtain ⟨pr, ll, kk⟩ := pairs_of (P := X.prog) S.keys
    exact next_key_end (I.ok.hd hc) st (I.kIn _ _ S.look) rfl (by rw [ll, Array.length_toList]) hg fun h' eb => ⟨rfl, I.turned (t' := s.toks) (fun b ob hb e => eb b ob hb e) f0 f1 f3 f4 f5⟩
  self := fun A i s Q E st h => wpAny_pyIter_keyiter st h
def iSKeys (K : PySem.W.Frag) (w : World) (td : TE) : TI := fun σ H R => td σ H fun x H1 => ∃ d ks es ep, x = .ref d ∧ SKeys w K d ks es ep ∧ R (ItS ks) H1
theorem pi_skeys {X : Cx} {tg e : Expr} {td : TE} (he : PE X e td) : PI X tg e (iSKeys X.K X.w td) := by
  refine ⟨fun pins s σ H R I h => ?_⟩
  refine thn (he.run pins s σ H _ I h) fun u s1 ⟨x, H1, I1, rx, d, ks, es, ep, ex, S, q⟩ => ?_
  subst ex
  obtain rfl : u = Value.ref d := rx
  obtain ⟨pr, ll, kk⟩ := pairs_of (P := X.prog) S.keys
  refine iter_keys S.nsys (I1.kIn _ _ S.look) ⟨rfl, rfl, rfl⟩ rfl (pi_one (tk := s1.toks) I1 _ (turn_skeys S) ⟨_, Heap.get?_push_size _ rfl, rfl, ?_⟩ q)
  rw [ll, Array.length_toList]
  rfl
end CT

namespace CT
open PySem PySem.Spec PyProof.Rows L2
theorem Tx.shapes {w : World} {K : PySem.W.Frag} {mg : PySem.Str → Option Value} (T : Tx w K mg) : ∃ es ep, SKeys w K (He.ga K "SHAPES") shpKeys es ep := by
  have h : (He.obsT fas fns tabs K).2 = (He.valT fns tabs w).2 := congrArg Prod.snd T.s.t
  have h : [He.dicW K (He.ga K "SHAPES")] = [some (He.keysIn w.params shpKeys)] := h
  have h := (List.cons.inj h).1
  unfold He.dicW at h
  split at h
  · rename_i c es n sl hl
    split at h
    · rename_i hb
      simp only [Bool.and_eq_true, decide_eq_true_eq, Bool.not_eq_true'] at hb
      obtain ⟨h1, h2, h3⟩ := hb
      subst h1
      have h2 : sl = #[] := by simpa using h2
      subst h2
      exact ⟨es, n, hl, Option.some.inj h, h3, by decide +kernel⟩
    · cases h
  · cases h
/-- the name of an instruction -/
def wordS : RWire.Value → PySem.Str
  | .text u => match shpKeys.find? fun z => txt z == u with
    | some z => z
    | none => ("" : PySem.Str)
  | _ => ""
theorem shp_byte : ∀ z ∈ shpKeys, byteS z ∧ z.cps.size ≤ 1000 := by
  have : (shpKeys.all fun z => decide (byteS z) && decide (z.cps.size ≤ 1000)) = true := by decide +kernel
  intro z hz
  have := List.all_eq_true.mp this z hz
  simpa using this
section
variable {P : Program} {w : World} {K : PySem.W.Frag} {mg : PySem.Str → Option Value} {base : Heap}
def spWordOf (K : PySem.W.Frag) : Sp := sp1 fun x H Q _ => ∃ F v, VAt K F v x ∧ Same F H ∧ ∀ H', Same H H' → Q (.str (wordS v)) H'
abbrev n_word_of : List PySem.Str := ["value", "name"]
theorem sc_word_of : FnScope n_word_of ["value"] d_word_of.scope := ⟨rfl, rfl, rfl, by decide +kernel, rfl, by decide +kernel, by decide +kernel⟩
theorem c_word_of (T : Tx w K mg) : Cal (CX0) P w K mg base 3 "word_of" (spWordOf K) := by
  refine cal_mk T.fd_word_of T.g_word_of sc_word_of (fun _ _ _ _ _ _ us hl => match us, hl with | [_], _ => rfl) (fun _ _ _ _ h => sp1_len h) (fun f cdv A outer s H vs Q E hr h => ?_)
  obtain ⟨x, rfl, F, v, hv, sF, q⟩ := h
  refine ⟨_, PSs.nox ((pss_cons (ps_for PassesOwn.never rfl (pi_skeys (pe_gr T.g_SHAPES rfl)) (pg_name (i := 1) sc_word_of.nd rfl (Or.inl rfl)) (pss_one (ps_if (PW.pt (pw_and (pt_cmpR op_eq (pe_fld (pv 0) rfl) (pe_gi T.i_TEXT rfl) (nomark _)) (pw_and1 (pt_cmpR (op_eqD hr.units) (pe_fld (pv 0) rfl) (pe_cal (c_octets_of T) hr (by decide) rfl passC (pa_cons (pv 1) pa_nil)) (nomark _))))) (pss_one (ps_ret (pv 1))) pss_nil)))
      (pss_one (ps_ret pe_str)))), ?_⟩
  obtain ⟨es, ep, S⟩ := T.shapes
  have hv0 := hv
  obtain ⟨hd, a, dx, rfl, ha⟩ := vat_kind hv0
  refine ⟨_, _, _, _, rfl, S, for_it walk_skeys (fun i σ H1 => Same H H1 ∧ (∀ u, v = .text u → ∀ j z, j < i → shpKeys[j]? = some z → (txt z == u) = false) ∧ ∃ o1, σ = [some (.ref a), o1]) ⟨Same.refl H, fun u _ j z h => by omega, _, rfl⟩ (fun _ _ _ _ _ => trivial) ?_ ?_⟩
  · rintro i x σ H1 H2 hi ⟨s1, no, o1, rfl⟩ ⟨rfl, z, hz, rfl⟩
    have sA := sF.trans s1
    refine ⟨_, rfl, r_fld (sA _ _ ha) T.c_Value T.n_Value_kind vF_kind ⟨rfl, _, rfl, ?_⟩⟩
    cases v with
    | text u =>
      obtain ⟨t, ⟨a', dx', e, ha'⟩, ht⟩ := hv
      cases e
      obtain ⟨bz, sz⟩ := shp_byte z (List.mem_of_getElem? hz)
      refine if_t (by kernel_rfl) ⟨_, rfl, r_fld (sA _ _ ha') T.c_Value T.n_Value_held vF_held ⟨_, rfl, _, rfl, z, rfl, sz, fun H3 t2 s3 nt2 ht2 => ?_⟩⟩
      rw [← octV_txt bz] at ht2
      refine ⟨_, _, .tup (SqT.of (s3 _ _ (sA _ _ ht))) (dp_oct u), .tup (SqT.of ht2) (dp_oct (txt z)), shaped_oct _, shaped_oct _, _, rfl, ?_⟩
      have ev : PyData.eqv (.tuple (octL u)) (.tuple (octL (txt z))) = (u == txt z) := eqv_oct _ _
      rw [ev]
      have sw : (u == txt z) = (txt z == u) := by
        rw [Bool.eq_iff_iff, beq_iff_eq, beq_iff_eq]
        exact eq_comm
      rw [sw]
      cases c : (txt z == u) with
      | true =>
        refine if_t rfl ⟨_, rfl, ?_⟩
        have := q _ (s1.trans s3)
        have ew : wordS (.text u) = z := by
          show (match shpKeys.find? fun z => txt z == u with | some z => z | none => ("" : PySem.Str)) = z
          rw [find_stop _ _ i z hz c fun j b hj hb => no u rfl j b hj hb]
        rw [ew] at this
        exact this
      | false =>
        refine if_f rfl ⟨s1.trans s3, fun u' eu j z' hj hz' => ?_, _, rfl⟩
        cases eu
        rcases Nat.lt_succ_iff_lt_or_eq.mp hj with h | h
        · exact no u rfl j z' h hz'
        · subst h
          rw [hz] at hz'
          cases hz'
          exact c
    | bool b =>
      refine if_f (by cases b <;> kernel_rfl) (if_f rfl ⟨s1, (fun u e => by cases e), _, rfl⟩)
    | _ => exact if_f (by kernel_rfl) (if_f rfl ⟨s1, (fun u e => by cases e), _, rfl⟩)
  · rintro σ H1 ⟨s1, no, o1, rfl⟩
    have := q H1 s1
    have ew : wordS v = "" := by
      cases v with
      | text u =>
        show (match shpKeys.find? fun z => txt z == u with | some z => z | none => ("" : PySem.Str)) = ("" : PySem.Str)
        have : shpKeys.find? (fun z => txt z == u) = none := by
          rw [List.find?_eq_none]
          intro z hz
          obtain ⟨j, hj⟩ := List.mem_iff_getElem?.mp hz
          rw [no u rfl j z (List.getElem?_eq_some_iff.mp hj).1 hj]
          exact Bool.false_ne_true
        rw [this]
      | _ => rfl
    rw [ew] at this
    exact this
end
end CT


namespace CT
open PySem PySem.Spec PyProof.Rows L2
/-! ### instructions -/
def shpSg : List (PySem.Str × List Sg) := [("const", [.r, .z]), ("add", [.r, .r, .r]), ("sub", [.r, .r, .r]), ("less", [.r, .r, .r]), ("jump", [.r, .k]), ("load", [.r, .v]), ("store", [.v, .r]), ("print", [.r]), ("lock", [.l]), ("unlock", [.l]), ("wait", [.c, .l]), ("wake", [.c]), ("start", [.t]), ("join", [.t])]
def sgs (z : PySem.Str) : Option (List Sg) := (shpSg.find? fun q => decide (q.1 = z)).map (·.2)
theorem shp_same : shpVals = shpSg.map fun q => (q.1, q.2.map fun s => V.str s.str) := by kernel_rfl
theorem sgs_key : ∀ z ∈ shpKeys, ∃ ss, sgs z = some ss ∧ (z, ss) ∈ shpSg ∧ ss.length ≤ 3 ∧ decide (V.str z = V.str "") = false := by
  have : (shpKeys.all fun z => match sgs z with
    | some ss => (shpSg.any fun q => decide (q.1 = z) && decide (q.2.length = ss.length)) && decide (ss.length ≤ 3) && !decide (V.str z = V.str "")
    | none => false) = true := by decide +kernel
  intro z hz
  have h := List.all_eq_true.mp this z hz
  cases e : sgs z with
  | none => rw [e] at h; cases h
  | some ss =>
    rw [e] at h
    simp only [Bool.and_eq_true, decide_eq_true_eq, Bool.not_eq_true'] at h
    refine ⟨ss, rfl, ?_, h.1.2, h.2⟩
    unfold sgs at e
    cases f : shpSg.find? (fun q => decide (q.1 = z)) with
    | none => rw [f] at e; cases e
    | some q =>
      rw [f] at e
      cases e
      have h1 := List.find?_some f
      have h2 := List.mem_of_find?_eq_some f
      simp only [decide_eq_true_eq] at h1
      rw [← h1]
      exact h2
theorem word_or (v : RWire.Value) : wordS v ∈ shpKeys ∨ wordS v = "" := by
  cases v with
  | text u =>
    show (match shpKeys.find? fun z => txt z == u with | some z => z | none => ("" : PySem.Str)) ∈ shpKeys ∨ _
    cases h : shpKeys.find? fun z => txt z == u with
    | none =>
      right
      show (match shpKeys.find? fun z => txt z == u with | some z => z | none => ("" : PySem.Str)) = _
      rw [h]
    | some z => exact .inl (List.mem_of_find?_eq_some h)
  | _ => exact .inr rfl
def heldI : RWire.Value → Int
  | .int i => i
  | _ => 0
/-- the bounds of all operands hold -/
def okAll (lo co sh th len : Nat) : List Sg → List RWire.Value → Bool
  | s :: ss, v :: vs => isBt v (bndLo s) (bndHi lo co sh th len s) && okAll lo co sh th len ss vs
  | _, _ => true
theorem okAll_of {lo co sh th len : Nat} : ∀ {ss : List Sg} {vs : List RWire.Value}, (∀ (j : Nat) (s : Sg) (v : RWire.Value), ss[j]? = some s → vs[j]? = some v → isBt v (bndLo s) (bndHi lo co sh th len s) = true) → okAll lo co sh th len ss vs = true
  | [], _, _ => rfl
  | _ :: _, [], _ => rfl
  | s :: ss, v :: vs, h => by
    show (_ && _) = true
    rw [h 0 s v rfl rfl, okAll_of fun j s v h1 h2 => h (j + 1) s v (by simpa using h1) (by simpa using h2)]
    rfl
theorem okAll_no {lo co sh th len : Nat} : ∀ {ss : List Sg} {vs : List RWire.Value} {j : Nat} {s : Sg} {v : RWire.Value}, ss[j]? = some s → vs[j]? = some v → isBt v (bndLo s) (bndHi lo co sh th len s) = false → okAll lo co sh th len ss vs = false
  | [], _, j, s, v, h, _, _ => by simp at h
  | _ :: _, [], j, s, v, _, h, _ => by simp at h
  | s :: ss, v :: vs, 0, s', v', h1, h2, h3 => by
    simp at h1 h2
    subst h1 h2
    show (_ && _) = false
    rw [h3]
    rfl
  | s :: ss, v :: vs, j + 1, s', v', h1, h2, h3 => by
    show (_ && _) = false
    rw [okAll_no (j := j) (by simpa using h1) (by simpa using h2) h3, Bool.and_false]
def insV (lo co sh th len : Nat) : RWire.Value → Option (PySem.Str × List Int)
  | .list (u :: us) => match sgs (wordS u) with
    | some ss => if us.length = ss.length ∧ okAll lo co sh th len ss us = true then some (wordS u, us.map heldI) else none
    | none => none
  | _ => none
section
variable {P : Program} {w : World} {K : PySem.W.Frag} {mg : PySem.Str → Option Value} {base : Heap}
theorem Tx.shape (T : Tx w K mg) {z : PySem.Str} {ss : List Sg} (h : (z, ss) ∈ shpSg) : KDct K w (He.ga K "SHAPES") z (.ref (shpAt z K)) ∧ ∀ H, SqT K H (shpAt z K) (ss.map fun s => V.str s.str) := by
  have hx := T.s.ex
  unfold exB at hx
  have hx := (Bool.and_eq_true_iff.mp (Bool.and_eq_true_iff.mp (Bool.and_eq_true_iff.mp (Bool.and_eq_true_iff.mp hx).2).2).2).1
  have hm : (z, ss.map fun s => V.str s.str) ∈ shpVals := by
    rw [shp_same]
    exact List.mem_map.mpr ⟨(z, ss), h, rfl⟩
  have h1 := List.all_eq_true.mp hx _ hm
  unfold shpOneB at h1
  obtain ⟨h2, h3⟩ := Bool.and_eq_true_iff.mp h1
  obtain ⟨es, ep, S⟩ := T.shapes
  exact ⟨⟨es, ep, _, S.look, He.keysLit_of S.keys, He.eqO_ok h2, rfl⟩, fun H => tupAtB_ok h3 H⟩
def spInstructionOf (K : PySem.W.Frag) : Sp := sp4 fun x y z u H Q _ => ∃ F v H0 L pq, ∃ th len : Nat, VAt K F v x ∧ Same F H0 ∧ y = .ref L.pr ∧ z = natV th ∧ u = natV len ∧ PB K H0 H L pq ∧
  ∀ H', Same H H' → (match insV pq.lo pq.co pq.cv.length th len v with
    | none => Q .non H'
    | some r => ∀ a nl, H a = none → H nl = none → H' a = some (.tup [.str r.1, .ref nl]) → H' nl = some (.lst (r.2.map V.int)) → Q (.ref a) H')
abbrev n_instruction_of : List PySem.Str := ["value", "program", "threads", "length", "word", "numbers", "sign", "number", "low", "high"]
theorem sc_instruction_of : FnScope n_instruction_of ["value", "program", "threads", "length"] d_instruction_of.scope := ⟨rfl, rfl, rfl, by decide +kernel, rfl, by decide +kernel, by decide +kernel⟩
theorem c_instruction_of (T : Tx w K mg) : Cal (CX0) P w K mg base 4 "instruction_of" (spInstructionOf K) := by
  refine cal_mk T.fd_instruction_of T.g_instruction_of sc_instruction_of (fun _ _ _ _ _ _ us hl => match us, hl with | [_, _, _, _], _ => rfl) (fun _ _ _ _ h => sp4_len h) (fun f cdv A outer s H vs Q E hr h => ?_)
  obtain ⟨x, _, _, _, rfl, F, v, H0, L, pq, th, len, hv, sF, rfl, rfl, rfl, B, q⟩ := h
  refine ⟨_, PSs.nox ((pss_cons (ps_if (PW.pt (pw_or (pt_cmpR op_ne (pe_fld (pv 0) rfl) (pe_gi T.i_LIST rfl) (nomark _)) (pw_or1 (pt_cmpR op_eq (pe_callB call_len_seq rfl T.f_len boot_len (pa_cons (pe_fld (pv 0) rfl) pa_nil)) pe_int (nomark _))))) (pss_one (ps_ret pe_non)) pss_nil)
      (pss_cons (ps_set (i := 4) sc_instruction_of.nd rfl (Or.inl rfl) (pe_cal (c_word_of T) hr (by decide) rfl passC (pa_cons (pe_ix ix_list (pe_fld (pv 0) rfl) pe_int (fun _ _ => rfl)) pa_nil)))
      (pss_cons (ps_if (PW.pt (pw_or (pt_cmpR op_eq (pv 4) pe_str (nomark _)) (pw_or1 (pt_cmpR op_ne (pe_callB call_len_seq rfl T.f_len boot_len (pa_cons (pe_fld (pv 0) rfl) pa_nil)) (pe_op op_add (pe_callB call_len_seq rfl T.f_len boot_len (pa_cons (pe_ix ix_kdict (pe_gr T.g_SHAPES rfl) (pv 4) (fun _ _ => rfl)) pa_nil)) pe_int) (nomark _))))) (pss_one (ps_ret pe_non)) pss_nil)
      (pss_cons (ps_set (i := 5) sc_instruction_of.nd rfl (Or.inl rfl) (pe_slice sl_list (pe_fld (pv 0) rfl) (po_some pe_int) po_none))
      (pss_cons (ps_for PassesOwn.never rfl (pi_zipTL rfl T.f_zip (pa_cons (pe_ix ix_kdict (pe_gr T.g_SHAPES rfl) (pv 4) (fun _ _ => rfl)) (pa_cons (pv 5) pa_nil))) (pg_tup rfl (pgs_cons (pg_name (i := 6) sc_instruction_of.nd rfl (Or.inl rfl)) (pgs_cons (pg_name (i := 7) sc_instruction_of.nd rfl (Or.inl rfl)) pgs_nil))) (pss_cons (ps_asg (pe_cal (c_bounds_of T) hr (by decide) rfl passC (pa_cons (pv 6) (pa_cons (pv 1) (pa_cons (pv 2) (pa_cons (pv 3) pa_nil))))) (pg_tup rfl (pgs_cons (pg_name (i := 8) sc_instruction_of.nd rfl (Or.inl rfl)) (pgs_cons (pg_name (i := 9) sc_instruction_of.nd rfl (Or.inl rfl)) pgs_nil))))
      (pss_one (ps_if (pt_not (pt_val (pe_cal (c_is_between T) hr (by decide) rfl passC (pa_cons (pv 7) (pa_cons (pv 8) (pa_cons (pv 9) pa_nil)))))) (pss_one (ps_ret pe_non)) pss_nil))))
      (pss_one (ps_ret (pe_tup (pa_cons (pv 4) (pa_cons (pe_lc (own := [("number", 7)]) rfl sc_instruction_of.nd (pi_list (pv 5)) (blkOk_by (N := n_instruction_of) (sc := d_instruction_of.scope) (by decide +kernel)) (fun _ _ _ _ _ => (pg_name (i := 7) sc_instruction_of.nd rfl (Or.inl rfl))) (fun _ _ _ _ _ => pts_nil) (fun _ _ _ _ _ => (pe_fldK (K := K) rfl (pv 7) rfl))) pa_nil))))))))))), ?_⟩
  have hv0 := hv
  obtain ⟨hd, a, dx, rfl, ha⟩ := vat_kind hv0
  have hA := B.same _ _ (sF _ _ ha)
  refine ⟨_, rfl, r_fld hA T.c_Value T.n_Value_kind vF_kind ⟨rfl, _, rfl, ?_⟩⟩
  cases hl : decide (V.int (kindN v) = V.int 7) with
  | false =>
    refine if_t rfl (if_t rfl ?_)
    have := q H (Same.refl H)
    have e : insV pq.lo pq.co pq.cv.length th len v = none := by
      cases v with
      | list l => exact absurd hl (by simp [kindN])
      | _ => rfl
    rw [e] at this
    exact this
  | true =>
  refine if_f rfl ?_
  obtain ⟨l, rfl⟩ : ∃ l, v = .list l := by
    cases v with
    | list l => exact ⟨l, rfl⟩
    | bool b => cases b <;> simp [kindN] at hl
    | _ => simp [kindN] at hl
  obtain ⟨p, xs, ⟨a', dx', e, ha'⟩, hp, hxs⟩ := hv
  cases e
  have hA' := B.same _ _ (sF _ _ ha')
  have hP := B.same _ _ (sF _ _ hp)
  refine ⟨_, rfl, r_fld hA' T.c_Value T.n_Value_held vF_held ⟨p, _, rfl, .inl (SqL.of hP), rfl, _, rfl, ?_⟩⟩
  rw [hxs.len]
  cases l with
  | nil =>
    refine if_t rfl ?_
    exact q H (Same.refl H)
  | cons u us =>
  refine if_f (decide_eq_false (fun z => by have := V.int.inj z; simp at this; omega)) ?_
  obtain ⟨y, ys, ex, hu, hus⟩ := hxs
  subst ex
  have lys := hus.len
  refine ⟨_, rfl, r_fld hA' T.c_Value T.n_Value_held vF_held (r_i0 hP ⟨_, rfl, F, u, hu, sF.trans B.same, fun H1 s1 => ?_⟩)⟩
  have B1 := B.up s1
  have none_ : insV pq.lo pq.co pq.cv.length th len (.list (u :: us)) = none → ∀ H', Same H H' → Q .non H' := fun h H' s' => by
    have := q H' s'
    rw [h] at this
    exact this
  rcases word_or u with hw | hw
  rotate_left
  · rw [hw]
    refine r_is rfl ?_ (if_t rfl (none_ ?_ H1 s1))
    · kernel_rfl
    · have e2 : insV pq.lo pq.co pq.cv.length th len (.list (u :: us)) = (match sgs (wordS u) with
        | some ss => if us.length = ss.length ∧ okAll pq.lo pq.co pq.cv.length th len ss us = true then some (wordS u, us.map heldI) else none
        | none => none) := rfl
      rw [e2, hw]
      have e3 : sgs "" = none := by decide +kernel
      rw [e3]
  obtain ⟨ss, hss, hin, l3, nw⟩ := sgs_key _ hw
  obtain ⟨kd, sq⟩ := T.shape hin
  have ei : insV pq.lo pq.co pq.cv.length th len (.list (u :: us)) = if us.length = ss.length ∧ okAll pq.lo pq.co pq.cv.length th len ss us = true then some (wordS u, us.map heldI) else none := by
    have e2 : insV pq.lo pq.co pq.cv.length th len (.list (u :: us)) = (match sgs (wordS u) with
        | some ss => if us.length = ss.length ∧ okAll pq.lo pq.co pq.cv.length th len ss us = true then some (wordS u, us.map heldI) else none
        | none => none) := rfl
    rw [e2, hss]
  refine r_no rfl nw ?_
  have hP1 := s1 _ _ hP
  refine ⟨_, rfl, r_fld (s1 _ _ hA') T.c_Value T.n_Value_held vF_held ⟨p, _, rfl, .inl (SqL.of hP1), _, rfl, _, _, _, rfl, rfl, kd, _, _, rfl, .inr (sq H1), _, _, rfl, rfl, rfl, _, rfl, ?_⟩⟩
  have elen : (!decide (V.int ((y :: ys).length : Int) = V.int (((ss.map fun s => V.str s.str).length : Int) + 1))) = !decide (us.length = ss.length) := by
    congr 1
    refine decide_eq_decide.mpr ⟨fun z => ?_, fun z => congrArg V.int ?_⟩
    · have := V.int.inj z
      simp only [List.length_cons, List.length_map] at this
      omega
    · simp only [List.length_cons, List.length_map]
      omega
  show if (!decide (V.int ((y :: ys).length : Int) = V.int (((ss.map fun s => V.str s.str).length : Int) + 1))) = true then _ else _
  rw [elen]
  by_cases cl : us.length = ss.length
  rotate_left
  · exact if_t (by simp [cl]) (none_ (by rw [ei, if_neg (fun z => cl z.1)]) H1 s1)
  refine if_f (by simp [cl]) ?_
  refine ⟨_, rfl, r_fld (s1 _ _ hA') T.c_Value T.n_Value_held vF_held ⟨_, rfl, p, _, rfl, SqL.of hP1, fun nb nnb => ?_⟩⟩
  have ec : cutV (y :: ys) (some 1) none = ys := by
    unfold cutV
    have e1 : HT.sIx (y :: ys).length 0 (some 1) = 1 := by
      have := HT.sIx_nat (y :: ys).length 0 1
      rw [show ((1 : Nat) : Int) = 1 from rfl] at this
      rw [this]
      simp
    rw [e1, HT.sIx_none]
    simp
  rw [ec]
  have s2 := s1.trans (same_new (o := .lst ys) nnb)
  have hb : (upd H1 nb (.lst ys)) nb = some (.lst ys) := upd_same
  refine ⟨_, rfl, _, _, _, rfl, rfl, kd, _, rfl, _, nb, _, _, rfl, sq _, SqL.of hb, ?_⟩
  refine for_it (walk_zipTL (n := us.length) (by rw [List.length_map, cl]) lys) (fun i σ H2 => Same (upd H1 nb (.lst ys)) H2 ∧ (∀ (j : Nat) (sg : Sg) (v : RWire.Value), j < i → ss[j]? = some sg → us[j]? = some v → isBt v (bndLo sg) (bndHi pq.lo pq.co pq.cv.length th len sg) = true) ∧ ∃ o6 o7 o8 o9, σ = [some (.ref a), some (.ref L.pr), some (natV th), some (natV len), some (.str (wordS u)), some (.ref nb), o6, o7, o8, o9])
    ⟨Same.refl _, fun j _ _ h => by omega, _, _, _, _, rfl⟩ (fun i σ H2 _ h => ⟨sq _, SqL.of (h.1 _ _ hb)⟩) ?_ ?_
  · rintro i t σ H2 H3 hi ⟨s3, ok, o6, o7, o8, o9, rfl⟩ ⟨Tt, x0, y0, rfl, nT, rfl, g1, g2⟩
    obtain ⟨sg, hsg⟩ := get_lt (l := ss) (i := i) (by omega)
    have g1' : x0 = .str sg.str := by
      rw [List.getElem?_map, hsg] at g1
      exact (Option.some.inj g1).symm
    subst g1'
    obtain ⟨vj, hvj, hv2⟩ := hus.get g2
    have sT := same_new (o := .tup [.str sg.str, y0]) nT
    have s4 := s2.trans (s3.trans sT)
    refine ⟨Tt, _, rfl, SqT.of upd_same, rfl, _, _, rfl, _, _, rfl, rfl, ?_⟩
    refine ⟨_, rfl, _, rfl, _, rfl, _, rfl, _, _, _, _, rfl, H0, L, pq, sg, th, len, rfl, rfl, rfl, rfl, B.up s4, fun H5 t5 s5 h5 => ?_⟩
    refine ⟨t5, _, rfl, SqT.of h5, rfl, _, _, rfl, _, _, rfl, rfl, ?_⟩
    refine ⟨_, rfl, _, rfl, _, rfl, _, _, _, rfl, F, vj, _, _, hv2, sF.trans (B.same.trans (s4.trans s5)), rfl, rfl, _, rfl, ?_⟩
    cases cb : isBt vj (bndLo sg) (bndHi pq.lo pq.co pq.cv.length th len sg) with
    | false =>
      refine if_t rfl (none_ ?_ H5 (s4.trans s5))
      rw [ei, if_neg (fun z => by rw [okAll_no hsg hvj cb] at z; cases z.2)]
    | true =>
      refine if_f rfl ⟨s3.trans (sT.trans s5), fun j sg' v' hj h1 h2 => ?_, _, _, _, _, rfl⟩
      rcases Nat.lt_succ_iff_lt_or_eq.mp hj with h | h
      · exact ok j sg' v' h h1 h2
      · subst h
        rw [hsg] at h1
        rw [hvj] at h2
        cases h1
        cases h2
        exact cb
  · rintro σ H2 ⟨s3, ok, o6, o7, o8, o9, rfl⟩
    have hb2 := s3 _ _ hb
    have okA : okAll pq.lo pq.co pq.cv.length th len ss us = true := okAll_of fun j sg v h1 h2 => ok j sg v (List.getElem?_eq_some_iff.mp h2).1 h1 h2
    refine ⟨_, rfl, _, rfl, nb, rfl, ⟨_, SqL.of hb2⟩, fun D nD => ?_⟩
    have sD := same_new (o := .lst []) nD
    refine lc_list (fun i H4 => Same H2 H4 ∧ H4 D = some (.lst (((us.take i).map heldI).map V.int))) ⟨sD, upd_same⟩ (fun i H4 _ h => SqL.of (h.1 _ _ hb2)) ?_ ?_
    · rintro i y1 H4 hy1 ⟨s4, hD⟩
      obtain ⟨vj, hvj, hv2⟩ := hus.get hy1
      have hi : i < us.length := (List.getElem?_eq_some_iff.mp hvj).1
      obtain ⟨sg, hsg⟩ := get_lt (l := ss) (i := i) (by omega)
      have bt := ok i sg vj hi hsg hvj
      obtain ⟨z, rfl⟩ : ∃ z, vj = .int z := by
        cases vj with
        | int z => exact ⟨z, rfl⟩
        | _ => cases bt
      obtain ⟨a6, dx6, rfl, ha6⟩ := hv2
      refine ⟨rfl, _, rfl, r_fld ((B.same.trans (s2.trans (s3.trans s4))) _ _ (sF _ _ ha6)) T.c_Value T.n_Value_held vF_held ⟨_, hD, ?_, same_at nD s4, ?_⟩⟩
      · rw [List.length_map, List.length_map, List.length_take]
        exact small1000 (by omega)
      · rw [upd_same, take_succ_get hvj, List.map_append, List.map_append]
        rfl
    · rintro H4 ⟨s4, hD⟩
      rw [lys, take_len] at hD
      refine ⟨lineOf (by show 2 ≤ 1000; decide), fun t6 n6 => ?_⟩
      have s6 := same_new (o := .tup [.str (wordS u), .ref D]) n6
      have := q _ (s2.trans (s3.trans (s4.trans s6)))
      rw [ei, if_pos ⟨cl, okA⟩] at this
      exact this t6 D (s2.free (s3.free (s4.free n6))) (s2.free (s3.free nD)) upd_same (s6 _ _ hD)
end
end CT


namespace CT
open PySem PySem.Spec PyProof.Rows L2
/-! ### the document's instruction and the program's -/
/-- what Fit asks of an instruction -/
def InsFit (lo co sh th len : Nat) : Ins → Prop
  | .const r _ => r < 4
  | .add r a b => r < 4 ∧ a < 4 ∧ b < 4
  | .sub r a b => r < 4 ∧ a < 4 ∧ b < 4
  | .less r a b => r < 4 ∧ a < 4 ∧ b < 4
  | .jump r k => r < 4 ∧ k ≤ len
  | .load r v => r < 4 ∧ v < sh
  | .store v r => v < sh ∧ r < 4
  | .print r => r < 4
  | .lock l => l < lo
  | .unlock l => l < lo
  | .wait c l => c < co ∧ l < lo
  | .wake c => c < co
  | .start u => u < th
  | .join u => u < th
def InsR (lo co sh th len : Nat) : Option (PySem.Str × List Int) → Option Ins → Prop
  | none, none => True
  | some q, some i => q.1 = insName i ∧ q.2 = insNums i ∧ InsFit lo co sh th len i
  | _, _ => False
def natI (v : RWire.Value) : Nat := (heldI v).toNat
section
variable {lo co sh th len : Nat}
theorem natI_held {v : RWire.Value} {hi : Int} (h : isBt v 0 hi = true) : heldI v = (natI v : Int) ∧ (natI v : Int) ≤ hi := by
  cases v with
  | int i =>
    have h : (decide ((0 : Int) ≤ i) && decide (i ≤ hi)) = true := h
    simp only [Bool.and_eq_true, decide_eq_true_eq] at h
    unfold natI heldI
    simp only
    omega
  | _ => cases h
theorem in_law {v : RWire.Value} (g : goodV v) {b : Nat} : R7285d.Spec.integerIn 0 b (Rust.taken v) = if isBt v 0 (b : Int) = true then some (natI v) else none := by
  rw [integerIn_bt g]
  have e : isBt v ((0 : Nat) : Int) (b : Int) = isBt v 0 (b : Int) := rfl
  rw [e]
  by_cases c : isBt v 0 (b : Int) = true
  · rw [if_pos c, if_pos c]
    cases v with
    | int i => rfl
    | _ => cases c
  · rw [if_neg c, if_neg c]
theorem among_law {v : RWire.Value} (g : goodV v) {n : Nat} : R7285d.Spec.among n (Rust.taken v) = if isBt v 0 ((n : Int) - 1) = true then some (natI v) else none := by
  unfold R7285d.Spec.among
  by_cases h : n = 0
  · subst h
    rw [if_pos rfl, if_neg]
    intro c
    cases v with
    | int i =>
      have c : (decide ((0 : Int) ≤ i) && decide (i ≤ ((0 : Nat) : Int) - 1)) = true := c
      simp only [Bool.and_eq_true, decide_eq_true_eq] at c
      omega
    | _ => cases c
  · rw [if_neg h, in_law g, show ((n - 1 : Nat) : Int) = (n : Int) - 1 by omega]
theorem reg_law {v : RWire.Value} (g : goodV v) : R7285d.Spec.register (Rust.taken v) = if isBt v 0 3 = true then some (natI v) else none := in_law g
abbrev OpL (f : R7285d.Spec.Plain → Option Nat) (hi : Int) : Prop := ∀ v, goodV v → f (Rust.taken v) = if isBt v 0 hi = true then some (natI v) else none
theorem law1 {f : R7285d.Spec.Plain → Option Nat} {sg : Sg} (l0 : bndLo sg = 0) (hf : OpL f (bndHi lo co sh th len sg)) {g : Nat → Ins} {nm : PySem.Str} (hn : ∀ n, nm = insName (g n)) (hs : ∀ n : Nat, insNums (g n) = [(n : Int)]) (hfit : ∀ n : Nat, (n : Int) ≤ bndHi lo co sh th len sg → InsFit lo co sh th len (g n))
    {us : List RWire.Value} (gu : goodL us) : InsR lo co sh th len (if us.length = [sg].length ∧ okAll lo co sh th len [sg] us = true then some (nm, us.map heldI) else none) (R7285d.Spec.one f g (us.map Rust.taken)) := by
  match us, gu with
  | [], _ => exact trivial
  | _ :: _ :: _, _ =>
    rw [if_neg (fun z => by simp at z)]
    exact trivial
  | [a], gu =>
    show InsR lo co sh th len _ ((f (Rust.taken a)).map g)
    rw [hf a (gu a (by simp))]
    have e : okAll lo co sh th len [sg] [a] = isBt a 0 (bndHi lo co sh th len sg) := by
      show (isBt a (bndLo sg) _ && true) = _
      rw [l0, Bool.and_true]
    rw [e]
    by_cases c : isBt a 0 (bndHi lo co sh th len sg) = true
    · obtain ⟨h1, h2⟩ := natI_held c
      rw [if_pos ⟨rfl, c⟩, if_pos c]
      refine ⟨hn _, ?_, hfit _ h2⟩
      show [heldI a] = _
      rw [hs, h1]
    · rw [if_neg (fun z => c z.2), if_neg c]
      exact trivial
theorem law2 {f1 f2 : R7285d.Spec.Plain → Option Nat} {s1 s2 : Sg} (l1 : bndLo s1 = 0) (l2 : bndLo s2 = 0) (h1 : OpL f1 (bndHi lo co sh th len s1)) (h2 : OpL f2 (bndHi lo co sh th len s2)) {g : Nat → Nat → Ins} {nm : PySem.Str} (hn : ∀ m n, nm = insName (g m n)) (hs : ∀ m n : Nat, insNums (g m n) = [(m : Int), (n : Int)])
    (hfit : ∀ m n : Nat, (m : Int) ≤ bndHi lo co sh th len s1 → (n : Int) ≤ bndHi lo co sh th len s2 → InsFit lo co sh th len (g m n)) {us : List RWire.Value} (gu : goodL us) : InsR lo co sh th len (if us.length = [s1, s2].length ∧ okAll lo co sh th len [s1, s2] us = true then some (nm, us.map heldI) else none) (R7285d.Spec.two f1 f2 g (us.map Rust.taken)) := by
  match us, gu with
  | [], _ => exact trivial
  | [_], _ =>
    rw [if_neg (fun z => by simp at z)]
    exact trivial
  | _ :: _ :: _ :: _, _ =>
    rw [if_neg (fun z => by simp at z)]
    exact trivial
  | [a, b], gu =>
    show InsR lo co sh th len _ ((f1 (Rust.taken a)).bind fun a => (f2 (Rust.taken b)).map fun b => g a b)
    rw [h1 a (gu a (by simp)), h2 b (gu b (by simp))]
    have e : okAll lo co sh th len [s1, s2] [a, b] = (isBt a 0 (bndHi lo co sh th len s1) && isBt b 0 (bndHi lo co sh th len s2)) := by
      show (isBt a (bndLo s1) _ && (isBt b (bndLo s2) _ && true)) = _
      rw [l1, l2, Bool.and_true]
    rw [e]
    by_cases c : isBt a 0 (bndHi lo co sh th len s1) = true
    · by_cases d : isBt b 0 (bndHi lo co sh th len s2) = true
      · obtain ⟨a1, a2⟩ := natI_held c
        obtain ⟨b1, b2⟩ := natI_held d
        rw [if_pos ⟨rfl, by rw [c, d]; rfl⟩, if_pos c, if_pos d]
        refine ⟨hn _ _, ?_, hfit _ _ a2 b2⟩
        show [heldI a, heldI b] = _
        rw [hs, a1, b1]
      · rw [if_neg (fun z => by have := z.2; simp only [Bool.and_eq_true] at this; exact d this.2), if_pos c, if_neg d]
        exact trivial
    · rw [if_neg (fun z => by have := z.2; simp only [Bool.and_eq_true] at this; exact c this.1), if_neg c]
      exact trivial
theorem law3 {g : Nat → Nat → Nat → Ins} {nm : PySem.Str} (hn : ∀ l m n, nm = insName (g l m n)) (hs : ∀ l m n : Nat, insNums (g l m n) = [(l : Int), (m : Int), (n : Int)])
    (hfit : ∀ l m n : Nat, (l : Int) ≤ 3 → (m : Int) ≤ 3 → (n : Int) ≤ 3 → InsFit lo co sh th len (g l m n)) {us : List RWire.Value} (gu : goodL us) : InsR lo co sh th len (if us.length = [Sg.r, .r, .r].length ∧ okAll lo co sh th len [.r, .r, .r] us = true then some (nm, us.map heldI) else none) (R7285d.Spec.three g (us.map Rust.taken)) := by
  match us, gu with
  | [], _ => exact trivial
  | [_], _ =>
    rw [if_neg (fun z => by simp at z)]
    exact trivial
  | [_, _], _ =>
    rw [if_neg (fun z => by simp at z)]
    exact trivial
  | _ :: _ :: _ :: _ :: _, _ =>
    rw [if_neg (fun z => by simp at z)]
    exact trivial
  | [a, b, d], gu =>
    show InsR lo co sh th len _ ((R7285d.Spec.register (Rust.taken a)).bind fun a => (R7285d.Spec.register (Rust.taken b)).bind fun b => (R7285d.Spec.register (Rust.taken d)).map fun c => g a b c)
    rw [reg_law (gu a (by simp)), reg_law (gu b (by simp)), reg_law (gu d (by simp))]
    have e : okAll lo co sh th len [.r, .r, .r] [a, b, d] = (isBt a 0 3 && (isBt b 0 3 && isBt d 0 3)) := by
      show (isBt a 0 3 && (isBt b 0 3 && (isBt d 0 3 && true))) = _
      rw [Bool.and_true]
    rw [e]
    by_cases c1 : isBt a 0 3 = true
    · by_cases c2 : isBt b 0 3 = true
      · by_cases c3 : isBt d 0 3 = true
        · obtain ⟨a1, a2⟩ := natI_held c1
          obtain ⟨b1, b2⟩ := natI_held c2
          obtain ⟨d1, d2⟩ := natI_held c3
          rw [if_pos ⟨rfl, by rw [c1, c2, c3]; rfl⟩, if_pos c1, if_pos c2, if_pos c3]
          refine ⟨hn _ _ _, ?_, hfit _ _ _ a2 b2 d2⟩
          show [heldI a, heldI b, heldI d] = _
          rw [hs, a1, b1, d1]
        · rw [if_neg (fun z => by have := z.2; simp only [Bool.and_eq_true] at this; exact c3 this.2.2), if_pos c1, if_pos c2, if_neg c3]
          exact trivial
      · rw [if_neg (fun z => by have := z.2; simp only [Bool.and_eq_true] at this; exact c2 this.2.1), if_pos c1, if_neg c2]
        exact trivial
    · rw [if_neg (fun z => by have := z.2; simp only [Bool.and_eq_true] at this; exact c1 this.1), if_neg c1]
      exact trivial
theorem lawC {us : List RWire.Value} (gu : goodL us) : InsR lo co sh th len (if us.length = [Sg.r, .z].length ∧ okAll lo co sh th len [.r, .z] us = true then some ("const", us.map heldI) else none) (R7285d.Spec.constOf (us.map Rust.taken)) := by
  match us, gu with
  | [], _ => exact trivial
  | [_], _ =>
    rw [if_neg (fun z => by simp at z)]
    exact trivial
  | _ :: _ :: _ :: _, _ =>
    rw [if_neg (fun z => by simp at z)]
    exact trivial
  | [a, b], gu =>
    show InsR lo co sh th len _ ((R7285d.Spec.register (Rust.taken a)).bind fun r => (R7285d.Spec.intIn (-2147483648) 2147483647 (Rust.taken b)).map fun z => .const r z)
    rw [reg_law (gu a (by simp)), intIn_bt (gu b (by simp))]
    have e : okAll lo co sh th len [.r, .z] [a, b] = (isBt a 0 3 && isBt b (-2147483648) 2147483647) := by
      show (isBt a 0 3 && (isBt b (-2147483648) 2147483647 && true)) = _
      rw [Bool.and_true]
    rw [e]
    by_cases c : isBt a 0 3 = true
    · by_cases d : isBt b (-2147483648) 2147483647 = true
      · obtain ⟨a1, a2⟩ := natI_held c
        rw [if_pos ⟨rfl, by rw [c, d]; rfl⟩, if_pos c, if_pos d]
        cases b with
        | int i =>
          refine ⟨rfl, ?_, by show natI a < 4; omega⟩
          show [heldI a, i] = [(natI a : Int), i]
          rw [a1]
        | _ => cases d
      · rw [if_neg (fun z => by have := z.2; simp only [Bool.and_eq_true] at this; exact d this.2), if_pos c, if_neg d]
        exact trivial
    · rw [if_neg (fun z => by have := z.2; simp only [Bool.and_eq_true] at this; exact c this.1), if_neg c]
      exact trivial
end
end CT

namespace CT
open PySem PySem.Spec PyProof.Rows L2
section
variable {lo co sh th len : Nat} {us : List RWire.Value}
theorem w_const : R7285d.Spec.instrOf ⟨lo, co, sh, th, len⟩ ((txt (PySem.Str.ofString "const")).map Rust.unitOf) (us.map Rust.taken) = R7285d.Spec.constOf (us.map Rust.taken) := by kernel_rfl
theorem g_const : sgs (PySem.Str.ofString "const") = some [.r, .z] := by kernel_rfl
theorem w_add : R7285d.Spec.instrOf ⟨lo, co, sh, th, len⟩ ((txt (PySem.Str.ofString "add")).map Rust.unitOf) (us.map Rust.taken) = R7285d.Spec.three .add (us.map Rust.taken) := by kernel_rfl
theorem g_add : sgs (PySem.Str.ofString "add") = some [.r, .r, .r] := by kernel_rfl
theorem w_sub : R7285d.Spec.instrOf ⟨lo, co, sh, th, len⟩ ((txt (PySem.Str.ofString "sub")).map Rust.unitOf) (us.map Rust.taken) = R7285d.Spec.three .sub (us.map Rust.taken) := by kernel_rfl
theorem g_sub : sgs (PySem.Str.ofString "sub") = some [.r, .r, .r] := by kernel_rfl
theorem w_less : R7285d.Spec.instrOf ⟨lo, co, sh, th, len⟩ ((txt (PySem.Str.ofString "less")).map Rust.unitOf) (us.map Rust.taken) = R7285d.Spec.three .less (us.map Rust.taken) := by kernel_rfl
theorem g_less : sgs (PySem.Str.ofString "less") = some [.r, .r, .r] := by kernel_rfl
theorem w_jump : R7285d.Spec.instrOf ⟨lo, co, sh, th, len⟩ ((txt (PySem.Str.ofString "jump")).map Rust.unitOf) (us.map Rust.taken) = R7285d.Spec.two R7285d.Spec.register (R7285d.Spec.integerIn 0 len) .jump (us.map Rust.taken) := by kernel_rfl
theorem g_jump : sgs (PySem.Str.ofString "jump") = some [.r, .k] := by kernel_rfl
theorem w_load : R7285d.Spec.instrOf ⟨lo, co, sh, th, len⟩ ((txt (PySem.Str.ofString "load")).map Rust.unitOf) (us.map Rust.taken) = R7285d.Spec.two R7285d.Spec.register (R7285d.Spec.among sh) .load (us.map Rust.taken) := by kernel_rfl
theorem g_load : sgs (PySem.Str.ofString "load") = some [.r, .v] := by kernel_rfl
theorem w_store : R7285d.Spec.instrOf ⟨lo, co, sh, th, len⟩ ((txt (PySem.Str.ofString "store")).map Rust.unitOf) (us.map Rust.taken) = R7285d.Spec.two (R7285d.Spec.among sh) R7285d.Spec.register .store (us.map Rust.taken) := by kernel_rfl
theorem g_store : sgs (PySem.Str.ofString "store") = some [.v, .r] := by kernel_rfl
theorem w_print : R7285d.Spec.instrOf ⟨lo, co, sh, th, len⟩ ((txt (PySem.Str.ofString "print")).map Rust.unitOf) (us.map Rust.taken) = R7285d.Spec.one R7285d.Spec.register .print (us.map Rust.taken) := by kernel_rfl
theorem g_print : sgs (PySem.Str.ofString "print") = some [.r] := by kernel_rfl
theorem w_lock : R7285d.Spec.instrOf ⟨lo, co, sh, th, len⟩ ((txt (PySem.Str.ofString "lock")).map Rust.unitOf) (us.map Rust.taken) = R7285d.Spec.one (R7285d.Spec.among lo) .lock (us.map Rust.taken) := by kernel_rfl
theorem g_lock : sgs (PySem.Str.ofString "lock") = some [.l] := by kernel_rfl
theorem w_unlock : R7285d.Spec.instrOf ⟨lo, co, sh, th, len⟩ ((txt (PySem.Str.ofString "unlock")).map Rust.unitOf) (us.map Rust.taken) = R7285d.Spec.one (R7285d.Spec.among lo) .unlock (us.map Rust.taken) := by kernel_rfl
theorem g_unlock : sgs (PySem.Str.ofString "unlock") = some [.l] := by kernel_rfl
theorem w_wait : R7285d.Spec.instrOf ⟨lo, co, sh, th, len⟩ ((txt (PySem.Str.ofString "wait")).map Rust.unitOf) (us.map Rust.taken) = R7285d.Spec.two (R7285d.Spec.among co) (R7285d.Spec.among lo) .wait (us.map Rust.taken) := by kernel_rfl
theorem g_wait : sgs (PySem.Str.ofString "wait") = some [.c, .l] := by kernel_rfl
theorem w_wake : R7285d.Spec.instrOf ⟨lo, co, sh, th, len⟩ ((txt (PySem.Str.ofString "wake")).map Rust.unitOf) (us.map Rust.taken) = R7285d.Spec.one (R7285d.Spec.among co) .wake (us.map Rust.taken) := by kernel_rfl
theorem g_wake : sgs (PySem.Str.ofString "wake") = some [.c] := by kernel_rfl
theorem w_start : R7285d.Spec.instrOf ⟨lo, co, sh, th, len⟩ ((txt (PySem.Str.ofString "start")).map Rust.unitOf) (us.map Rust.taken) = R7285d.Spec.one (R7285d.Spec.among th) .start (us.map Rust.taken) := by kernel_rfl
theorem g_start : sgs (PySem.Str.ofString "start") = some [.t] := by kernel_rfl
theorem w_join : R7285d.Spec.instrOf ⟨lo, co, sh, th, len⟩ ((txt (PySem.Str.ofString "join")).map Rust.unitOf) (us.map Rust.taken) = R7285d.Spec.one (R7285d.Spec.among th) .join (us.map Rust.taken) := by kernel_rfl
theorem g_join : sgs (PySem.Str.ofString "join") = some [.t] := by kernel_rfl
theorem ins_words (gu : goodL us) {z : PySem.Str} (hz : z ∈ shpKeys) {ss : List Sg} (hs : sgs z = some ss) :
    InsR lo co sh th len (if us.length = ss.length ∧ okAll lo co sh th len ss us = true then some (z, us.map heldI) else none) (R7285d.Spec.instrOf ⟨lo, co, sh, th, len⟩ ((txt z).map Rust.unitOf) (us.map Rust.taken)) := by
  unfold shpKeys at hz
  simp only [List.mem_cons, List.not_mem_nil, or_false] at hz
  rcases hz with rfl | rfl | rfl | rfl | rfl | rfl | rfl | rfl | rfl | rfl | rfl | rfl | rfl | rfl
  · rw [g_const] at hs
    cases hs
    rw [w_const]
    exact lawC gu
  · rw [g_add] at hs
    cases hs
    rw [w_add]
    exact law3 (lo := lo) (co := co) (sh := sh) (th := th) (len := len) (g := .add) (fun _ _ _ => rfl) (fun _ _ _ => rfl) (fun l m n h1 h2 h3 => ⟨by omega, by omega, by omega⟩) gu
  · rw [g_sub] at hs
    cases hs
    rw [w_sub]
    exact law3 (lo := lo) (co := co) (sh := sh) (th := th) (len := len) (g := .sub) (fun _ _ _ => rfl) (fun _ _ _ => rfl) (fun l m n h1 h2 h3 => ⟨by omega, by omega, by omega⟩) gu
  · rw [g_less] at hs
    cases hs
    rw [w_less]
    exact law3 (lo := lo) (co := co) (sh := sh) (th := th) (len := len) (g := .less) (fun _ _ _ => rfl) (fun _ _ _ => rfl) (fun l m n h1 h2 h3 => ⟨by omega, by omega, by omega⟩) gu
  · rw [g_jump] at hs
    cases hs
    rw [w_jump]
    exact law2 (lo := lo) (co := co) (sh := sh) (th := th) (len := len) (s1 := .r) (s2 := .k) (g := .jump) rfl rfl (fun v g => reg_law g) (fun v g => in_law g) (fun _ _ => rfl) (fun _ _ => rfl) (fun m n h1 h2 => ⟨by have h : (m : Int) ≤ 3 := h1; omega, by have h : (n : Int) ≤ (len : Int) := h2; omega⟩) gu
  · rw [g_load] at hs
    cases hs
    rw [w_load]
    exact law2 (lo := lo) (co := co) (sh := sh) (th := th) (len := len) (s1 := .r) (s2 := .v) (g := .load) rfl rfl (fun v g => reg_law g) (fun v g => among_law g) (fun _ _ => rfl) (fun _ _ => rfl) (fun m n h1 h2 => ⟨by have h : (m : Int) ≤ 3 := h1; omega, by have h : (n : Int) ≤ (sh : Int) - 1 := h2; omega⟩) gu
  · rw [g_store] at hs
    cases hs
    rw [w_store]
    exact law2 (lo := lo) (co := co) (sh := sh) (th := th) (len := len) (s1 := .v) (s2 := .r) (g := .store) rfl rfl (fun v g => among_law g) (fun v g => reg_law g) (fun _ _ => rfl) (fun _ _ => rfl) (fun m n h1 h2 => ⟨by have h : (m : Int) ≤ (sh : Int) - 1 := h1; omega, by have h : (n : Int) ≤ 3 := h2; omega⟩) gu
  · rw [g_print] at hs
    cases hs
    rw [w_print]
    exact law1 (lo := lo) (co := co) (sh := sh) (th := th) (len := len) (sg := .r) (g := .print) rfl (fun v g => reg_law g) (fun _ => rfl) (fun _ => rfl) (fun n h1 => (by have h : (n : Int) ≤ 3 := h1; (first | (show n < 4; omega) | (show n < _; omega)))) gu
  · rw [g_lock] at hs
    cases hs
    rw [w_lock]
    exact law1 (lo := lo) (co := co) (sh := sh) (th := th) (len := len) (sg := .l) (g := .lock) rfl (fun v g => among_law g) (fun _ => rfl) (fun _ => rfl) (fun n h1 => (by have h : (n : Int) ≤ (lo : Int) - 1 := h1; (first | (show n < 4; omega) | (show n < _; omega)))) gu
  · rw [g_unlock] at hs
    cases hs
    rw [w_unlock]
    exact law1 (lo := lo) (co := co) (sh := sh) (th := th) (len := len) (sg := .l) (g := .unlock) rfl (fun v g => among_law g) (fun _ => rfl) (fun _ => rfl) (fun n h1 => (by have h : (n : Int) ≤ (lo : Int) - 1 := h1; (first | (show n < 4; omega) | (show n < _; omega)))) gu
  · rw [g_wait] at hs
    cases hs
    rw [w_wait]
    exact law2 (lo := lo) (co := co) (sh := sh) (th := th) (len := len) (s1 := .c) (s2 := .l) (g := .wait) rfl rfl (fun v g => among_law g) (fun v g => among_law g) (fun _ _ => rfl) (fun _ _ => rfl) (fun m n h1 h2 => ⟨by have h : (m : Int) ≤ (co : Int) - 1 := h1; omega, by have h : (n : Int) ≤ (lo : Int) - 1 := h2; omega⟩) gu
  · rw [g_wake] at hs
    cases hs
    rw [w_wake]
    exact law1 (lo := lo) (co := co) (sh := sh) (th := th) (len := len) (sg := .c) (g := .wake) rfl (fun v g => among_law g) (fun _ => rfl) (fun _ => rfl) (fun n h1 => (by have h : (n : Int) ≤ (co : Int) - 1 := h1; (first | (show n < 4; omega) | (show n < _; omega)))) gu
  · rw [g_start] at hs
    cases hs
    rw [w_start]
    exact law1 (lo := lo) (co := co) (sh := sh) (th := th) (len := len) (sg := .t) (g := .start) rfl (fun v g => among_law g) (fun _ => rfl) (fun _ => rfl) (fun n h1 => (by have h : (n : Int) ≤ (th : Int) - 1 := h1; (first | (show n < 4; omega) | (show n < _; omega)))) gu
  · rw [g_join] at hs
    cases hs
    rw [w_join]
    exact law1 (lo := lo) (co := co) (sh := sh) (th := th) (len := len) (sg := .t) (g := .join) rfl (fun v g => among_law g) (fun _ => rfl) (fun _ => rfl) (fun n h1 => (by have h : (n : Int) ≤ (th : Int) - 1 := h1; (first | (show n < 4; omega) | (show n < _; omega)))) gu
end
theorem bad_none {α : Type} {p : Units} {m : String} {e : R7285d.Spec.Err} : (R7285d.Spec.bad p m : R7285d.Spec.Res α) = .error ⟨.typeError, p ++ R7285d.Spec.units ": " ++ R7285d.Spec.units m⟩ := rfl
/-- how an instruction of a description is checked, and what the program makes of it -/
theorem ins_law {lo co sh th len : Nat} {v : RWire.Value} (gv : goodV v) (p : Units) : match insV lo co sh th len v with
    | none => R7285d.Spec.instrAt ⟨lo, co, sh, th, len⟩ p (Rust.taken v) = R7285d.Spec.bad p "expected an instruction"
    | some q => ∃ i, R7285d.Spec.instrAt ⟨lo, co, sh, th, len⟩ p (Rust.taken v) = .ok i ∧ q.1 = insName i ∧ q.2 = insNums i ∧ InsFit lo co sh th len i := by
  cases v with
  | octets u => cases gv.2.1
  | list l =>
    have gl : goodL l := goodL_of (by simpa [RWire.noBig] using gv.1) (by simpa [RWire.noOctets] using gv.2.1) (by simpa [RWire.noWide] using gv.2.2)
    have tk : Rust.taken (.list l) = .arr (l.map Rust.taken) := by rw [Rust.taken, takenAll_map]
    rw [tk]
    cases l with
    | nil => rfl
    | cons u us =>
      have gu := gl u (by simp)
      have gus : goodL us := fun v hv => gl v (by simp [hv])
      have ei : insV lo co sh th len (.list (u :: us)) = (match sgs (wordS u) with
        | some ss => if us.length = ss.length ∧ okAll lo co sh th len ss us = true then some (wordS u, us.map heldI) else none
        | none => none) := rfl
      rw [ei]
      have e3 : sgs ("" : PySem.Str) = none := by decide +kernel
      by_cases ht : ∃ t, u = .text t
      · obtain ⟨t, rfl⟩ := ht
        have et : Rust.taken (.text t) = .str (t.map Rust.unitOf) := by rw [Rust.taken]
        have ea : R7285d.Spec.instrAt ⟨lo, co, sh, th, len⟩ p (.arr ((RWire.Value.text t :: us).map Rust.taken)) = (match R7285d.Spec.instrOf ⟨lo, co, sh, th, len⟩ (t.map Rust.unitOf) (us.map Rust.taken) with
          | some i => .ok i
          | none => R7285d.Spec.bad p "expected an instruction") := by
          rw [List.map_cons, et]
          rfl
        rw [ea]
        cases hf : shpKeys.find? fun z => txt z == t with
        | none =>
          have ew : wordS (.text t) = ("" : PySem.Str) := by
            show (match shpKeys.find? fun z => txt z == t with | some z => z | none => ("" : PySem.Str)) = _
            rw [hf]
          rw [ew, e3]
          have hn : R7285d.Spec.instrOf ⟨lo, co, sh, th, len⟩ (t.map Rust.unitOf) (us.map Rust.taken) = none := by
            have no := List.find?_eq_none.mp hf
            have key : ∀ nm : String, narrowU (R7285d.Spec.units nm) → txt (PySem.Str.ofString nm) = uo (R7285d.Spec.units nm) → PySem.Str.ofString nm ∈ shpKeys → (t.map Rust.unitOf == R7285d.Spec.units nm) = false := fun nm h1 h2 h3 => by
              rw [name_eq h1, ← h2]
              have h4 := no _ h3
              cases h5 : (t == txt (PySem.Str.ofString nm)) with
              | false => rfl
              | true =>
                rw [beq_iff_eq] at h5
                exact absurd (by rw [h5]; simp) h4
            unfold R7285d.Spec.instrOf
            rw [key "const" (by unfold narrowU; decide +kernel) (by decide +kernel) (by decide +kernel)]
            rw [key "add" (by unfold narrowU; decide +kernel) (by decide +kernel) (by decide +kernel)]
            rw [key "sub" (by unfold narrowU; decide +kernel) (by decide +kernel) (by decide +kernel)]
            rw [key "less" (by unfold narrowU; decide +kernel) (by decide +kernel) (by decide +kernel)]
            rw [key "jump" (by unfold narrowU; decide +kernel) (by decide +kernel) (by decide +kernel)]
            rw [key "load" (by unfold narrowU; decide +kernel) (by decide +kernel) (by decide +kernel)]
            rw [key "store" (by unfold narrowU; decide +kernel) (by decide +kernel) (by decide +kernel)]
            rw [key "print" (by unfold narrowU; decide +kernel) (by decide +kernel) (by decide +kernel)]
            rw [key "lock" (by unfold narrowU; decide +kernel) (by decide +kernel) (by decide +kernel)]
            rw [key "unlock" (by unfold narrowU; decide +kernel) (by decide +kernel) (by decide +kernel)]
            rw [key "wait" (by unfold narrowU; decide +kernel) (by decide +kernel) (by decide +kernel)]
            rw [key "wake" (by unfold narrowU; decide +kernel) (by decide +kernel) (by decide +kernel)]
            rw [key "start" (by unfold narrowU; decide +kernel) (by decide +kernel) (by decide +kernel)]
            rw [key "join" (by unfold narrowU; decide +kernel) (by decide +kernel) (by decide +kernel)]
            rfl
          rw [hn]
        | some z =>
          have ew : wordS (.text t) = z := by
            show (match shpKeys.find? fun z => txt z == t with | some z => z | none => ("" : PySem.Str)) = _
            rw [hf]
          have hz := List.mem_of_find?_eq_some hf
          have hzt : txt z = t := by simpa using List.find?_some hf
          obtain ⟨ss, hss, _⟩ := sgs_key z hz
          have := ins_words (lo := lo) (co := co) (sh := sh) (th := th) (len := len) gus hz hss
          rw [hzt] at this
          rw [ew, hss]
          revert this
          show InsR lo co sh th len (if us.length = ss.length ∧ okAll lo co sh th len ss us = true then some (z, us.map heldI) else none) _ → match (if us.length = ss.length ∧ okAll lo co sh th len ss us = true then some (z, us.map heldI) else none) with
            | none => _
            | some q => _
          generalize (if us.length = ss.length ∧ okAll lo co sh th len ss us = true then some (z, us.map heldI) else none) = r
          generalize R7285d.Spec.instrOf ⟨lo, co, sh, th, len⟩ (t.map Rust.unitOf) (us.map Rust.taken) = i
          intro h
          cases r with
          | none => cases i with
            | none => rfl
            | some i => exact h.elim
          | some q => cases i with
            | none => exact h.elim
            | some i => exact ⟨i, rfl, h⟩
      · have ew : wordS u = ("" : PySem.Str) := by
          cases u with
          | text t => exact absurd ⟨t, rfl⟩ ht
          | _ => rfl
        have ea : R7285d.Spec.instrAt ⟨lo, co, sh, th, len⟩ p (.arr ((u :: us).map Rust.taken)) = R7285d.Spec.bad p "expected an instruction" := by
          cases u with
          | text t => exact absurd ⟨t, rfl⟩ ht
          | octets t => cases gu.2.1
          | wide t => cases gu.2.2
          | _ => rw [List.map_cons, Rust.taken]; rfl
        rw [ea, ew, e3]
  | _ => rw [Rust.taken]; rfl
end CT

namespace CT
open PySem PySem.Spec PyProof.Rows L2
/-- what stands beside a program's own objects -/
def bodyP (L : PLay) (H : Hp) : Hp := fun b => if b = L.pr ∨ b = L.c ∨ b = L.g ∨ b = L.w ∨ b = L.s ∨ b = L.k then none else H b
theorem bodyP_same {L : PLay} {H H' : Hp} (s : Same H H') : Same (bodyP L H) (bodyP L H') := fun b o h => by
  unfold bodyP at h ⊢
  split at h
  · cases h
  · rename_i n
    rw [if_neg n]
    exact s b o h
theorem bodyP_upd {L : PLay} {H : Hp} {b : Addr} {o : HO} (h : b = L.pr ∨ b = L.c ∨ b = L.g ∨ b = L.w ∨ b = L.s ∨ b = L.k) : bodyP L (upd H b o) = bodyP L H := by
  funext c
  unfold bodyP
  split
  · rfl
  · rename_i n
    rw [upd_ne (fun z => n (by rw [z]; exact h))]
theorem bodyP_new {K : PySem.W.Frag} {H0 H H' : Hp} {L : PLay} {v : PVal} (B : PB K H0 H L v) {b : Addr} {o : HO} (n : H b = none) (e : H' b = some o) : bodyP L H' b = some o := by
  unfold bodyP
  rw [if_neg]
  · exact e
  · rintro (h | h | h | h | h | h)
    · rw [h, B.ins] at n; cases n
    · rw [h, B.hc] at n; cases n
    · rw [h, B.hg] at n; cases n
    · rw [h, B.hw] at n; cases n
    · rw [h, B.hs] at n; cases n
    · rw [h, B.hk] at n; cases n
theorem bodyP_tup {K : PySem.W.Frag} {H0 H : Hp} {L : PLay} {v : PVal} (B : PB K H0 H L v) {b : Addr} {xs : List V} (e : H b = some (.tup xs)) : bodyP L H b = some (.tup xs) := by
  unfold bodyP
  rw [if_neg]
  · exact e
  · rintro (h | h | h | h | h | h)
    · rw [h, B.ins] at e; cases e
    · rw [h, B.hc] at e; cases e
    · rw [h, B.hg] at e; cases e
    · rw [h, B.hw] at e; cases e
    · rw [h, B.hs] at e; cases e
    · rw [h, B.hk] at e; cases e
/-- a thread's instructions -/
def CodeAt (F : Hp) (cr : Addr) (is_ : List Ins) : Prop := ∃ as : List Addr, F cr = some (.lst (as.map V.ref)) ∧ All2 (fun a i => EvAt F a (insName i) (insNums i)) as is_
theorem CodeAt.up {F F' : Hp} {cr : Addr} {is_ : List Ins} (h : CodeAt F cr is_) (s : Same F F') : CodeAt F' cr is_ := by
  obtain ⟨as, h1, h2⟩ := h
  exact ⟨as, s _ _ h1, h2.mono fun a i k => k.up s⟩
def boolO : RWire.Value → Option Bool
  | .bool b => some b
  | _ => none
theorem bool_law {v : RWire.Value} (g : goodV v) {p : Units} : R7285d.Spec.boolAt p (Rust.taken v) = match boolO v with
    | some b => .ok b
    | none => R7285d.Spec.bad p "expected true or false" := by
  cases v with
  | octets u => cases g.2.1
  | _ => rw [Rust.taken]; rfl
theorem bool_in {v : RWire.Value} : inV (V.int (kindN v)) [V.int 3, V.int 2] = (boolO v).isSome := by
  cases v with
  | bool b => cases b <;> rfl
  | _ => rfl
theorem bool_eq {v : RWire.Value} {b : Bool} (h : boolO v = some b) : decide (V.int (kindN v) = V.int 3) = b := by
  cases v with
  | bool c =>
    cases h
    cases b <;> rfl
  | _ => cases h
end CT


namespace CT
open PySem PySem.Spec PyProof.Rows L2
theorem thread_of {lo co sh th : Nat} {p : Units} {fs : List (RWire.Text × RWire.Value)} : R7285d.Spec.threadAt lo co sh th p (Rust.taken (.record fs)) = R7285d.Spec.andThen (R7285d.Spec.numberAt 1 9 (R7285d.Spec.dot p "weight") (Rust.taken (memb fs (txt "weight")))) fun w =>
    R7285d.Spec.andThen (R7285d.Spec.boolAt (R7285d.Spec.dot p "started") (Rust.taken (memb fs (txt "started")))) fun b =>
    R7285d.Spec.andThen (R7285d.Spec.arrayAt (R7285d.Spec.dot p "code") 0 30 "expected an array of at most 30 elements" (Rust.taken (memb fs (txt "code")))) fun l =>
    R7285d.Spec.andThen (R7285d.Spec.eachAt (R7285d.Spec.instrAt ⟨lo, co, sh, th, l.length⟩) (R7285d.Spec.dot p "code") 0 l) fun code => .ok ⟨w, b, code⟩ := by
  have t1 : txt (PySem.Str.ofString "weight") = uo (R7285d.Spec.units "weight") := by decide +kernel
  have t2 : txt (PySem.Str.ofString "started") = uo (R7285d.Spec.units "started") := by decide +kernel
  have t3 : txt (PySem.Str.ofString "code") = uo (R7285d.Spec.units "code") := by decide +kernel
  have f1 : R7285d.Spec.field (Rust.takenFields fs) "weight" = Rust.taken (memb fs (txt "weight")) := by rw [field_memb (by unfold narrowU; decide +kernel), t1]
  have f2 : R7285d.Spec.field (Rust.takenFields fs) "started" = Rust.taken (memb fs (txt "started")) := by rw [field_memb (by unfold narrowU; decide +kernel), t2]
  have f3 : R7285d.Spec.field (Rust.takenFields fs) "code" = Rust.taken (memb fs (txt "code")) := by rw [field_memb (by unfold narrowU; decide +kernel), t3]
  rw [← f1, ← f2, ← f3]
  unfold R7285d.Spec.threadAt
  rw [Rust.taken]
  rfl
/-- an address that is none of a program's own -/
def NotP (L : PLay) (D : Addr) : Prop := ¬(D = L.pr ∨ D = L.c ∨ D = L.g ∨ D = L.w ∨ D = L.s ∨ D = L.k)
theorem notP {K : PySem.W.Frag} {H0 H : Hp} {L : PLay} {v : PVal} (B : PB K H0 H L v) {D : Addr} (n : H D = none) : NotP L D := by
  rintro (h | h | h | h | h | h)
  · rw [h, B.ins] at n; cases n
  · rw [h, B.hc] at n; cases n
  · rw [h, B.hg] at n; cases n
  · rw [h, B.hw] at n; cases n
  · rw [h, B.hs] at n; cases n
  · rw [h, B.hk] at n; cases n
theorem PB.wr {K : PySem.W.Frag} {H0 H : Hp} {L : PLay} {v : PVal} (B : PB K H0 H L v) {D : Addr} (n0 : H0 D = none) (n : NotP L D) (o : HO) : PB K H0 (upd H D o) L v := { B with
  ins := by rw [upd_ne (fun z => n (.inl z.symm))]; exact B.ins
  same := same_at n0 B.same
  hc := by rw [upd_ne (fun z => n (.inr (.inl z.symm)))]; exact B.hc
  hg := by rw [upd_ne (fun z => n (.inr (.inr (.inl z.symm))))]; exact B.hg
  hw := by rw [upd_ne (fun z => n (.inr (.inr (.inr (.inl z.symm)))))]; exact B.hw
  hs := by rw [upd_ne (fun z => n (.inr (.inr (.inr (.inr (.inl z.symm))))))]; exact B.hs
  hk := by rw [upd_ne (fun z => n (.inr (.inr (.inr (.inr (.inr z.symm))))))]; exact B.hk }
/-- but for one object -/
def butD (D : Addr) (H : Hp) : Hp := fun b => if b = D then none else H b
theorem butD_same {D : Addr} {H H' : Hp} (s : Same H H') : Same (butD D H) (butD D H') := fun b o h => by
  unfold butD at h ⊢
  split at h
  · cases h
  · rename_i n
    rw [if_neg n]
    exact s b o h
theorem butD_in {D : Addr} {H : Hp} : Same (butD D H) H := fun b o h => by
  unfold butD at h
  split at h
  · cases h
  · exact h
theorem butD_wr {L : PLay} {D : Addr} {H0 H : Hp} {o : HO} : butD D (off H0 (bodyP L (upd H D o))) = butD D (off H0 (bodyP L H)) := by
  funext b
  unfold butD off bodyP
  by_cases z : b = D
  · rw [if_pos z, if_pos z]
  · rw [if_neg z, if_neg z, upd_ne z]
theorem same_butD {D : Addr} {X Y : Hp} (n : X D = none) (s : Same X Y) : Same X (butD D Y) := fun b o h => by
  unfold butD
  rw [if_neg (fun z => by rw [z, n] at h; cases h)]
  exact s b o h
theorem same_bodyD {L : PLay} {D : Addr} {X H : Hp} {o : HO} (n : X D = none) (s : Same X (bodyP L H)) : Same X (bodyP L (upd H D o)) := fun b u h => by
  have h1 := s b u h
  have z : b ≠ D := fun z => by rw [z, n] at h; cases h
  unfold bodyP at h1 ⊢
  split at h1
  · cases h1
  · rename_i m
    rw [if_neg m, upd_ne z]
    exact h1
section
variable {P : Program} {w : World} {K : PySem.W.Frag} {mg : PySem.Str → Option Value} {base : Heap}
def ThGood (lo co sh th : Nat) (d : R7285d.Spec.ThreadD) : Prop := 1 ≤ d.weight ∧ d.weight ≤ 9 ∧ d.code.length ≤ 30 ∧ ∀ i ∈ d.code, InsFit lo co sh th d.code.length i
def spReadThread (K : PySem.W.Frag) : Sp := sp4 fun x y z u H Q E => ∃ F v H0 L pq ps pu, ∃ th : Nat, x = .ref L.pr ∧ VAt K F v y ∧ goodV v ∧ Same F H0 ∧ z = .str ps ∧ txt ps = uo pu ∧ ps.cps.size ≤ 100 ∧ byteS ps ∧ u = natV th ∧ PB K H0 H L pq ∧
  pq.wv.length ≤ 100 ∧ pq.sv.length ≤ 100 ∧ pq.kv.length ≤ 100 ∧
  Out (R7285d.Spec.threadAt pq.lo pq.co pq.cv.length th pu (Rust.taken v)) (fun d => ∀ H' cr, ThGood pq.lo pq.co pq.cv.length th d → PB K H0 H' L { pq with wv := pq.wv ++ [d.weight], sv := pq.sv ++ [d.started], kv := pq.kv ++ [cr] } → Same (bodyP L H) (bodyP L H') → CodeAt (off H0 (bodyP L H')) cr d.code → Q .non H') fun e => RefuE K H0 e E
abbrev n_read_thread : List PySem.Str := ["program", "value", "place", "threads", "started", "rows", "is_good", "code", "at", "row", "found"]
theorem sc_read_thread : FnScope n_read_thread ["program", "value", "place", "threads"] d_read_thread.scope := ⟨rfl, rfl, rfl, by decide +kernel, rfl, by decide +kernel, by decide +kernel⟩
theorem c_read_thread (T : Tx w K mg) : Cal (XN P w) P w K mg base 6 "read_thread" (spReadThread K) := by
  refine cal_mk T.fd_read_thread T.g_read_thread sc_read_thread (fun _ _ _ _ _ _ us hl => match us, hl with | [_, _, _, _], _ => rfl) (fun _ _ _ _ h => sp4_len h) (fun f cdv A outer s H vs Q E hr h => ?_)
  obtain ⟨_, y, _, _, rfl, F, v, H0, L, pq, ps, pu, th, rfl, hv, gv, sF, rfl, pt, psz, pb, rfl, B, w100, s100, k100, q⟩ := h
  refine ⟨_, (pss_cons (ps_expr (pe_cal (c_expect T) hr (by decide) rfl passX (pa_cons (pe_cmpR op_eq (pe_fld (pv 1) rfl) (pe_gi T.i_RECORD rfl) (nomark _)) (pa_cons (pv 2) (pa_cons pe_str pa_nil)))))
      (pss_cons (ps_expr (pe_bm PySem.F.plainAttrs_list PySem.F.slot_list_append PySem.F.type_list_append mt_append (pe_fld (pv 0) rfl) (pa_cons (pe_cal (c_expect_number T) hr (by decide) rfl passX (pa_cons (pe_cal (c_member T) hr (by decide) rfl passC (pa_cons (pv 1) (pa_cons pe_str pa_nil))) (pa_cons (pe_op op_add_str (pv 2) pe_str) (pa_cons pe_int (pa_cons (pe_gi T.i_MOST_WEIGHT rfl) pa_nil))))) pa_nil)))
      (pss_cons (ps_set (i := 4) sc_read_thread.nd rfl (Or.inl rfl) (pe_cal (c_member T) hr (by decide) rfl passC (pa_cons (pv 1) (pa_cons pe_str pa_nil))))
      (pss_cons (ps_expr (pe_cal (c_expect T) hr (by decide) rfl passX (pa_cons (pe_cmpR op_in_seq (pe_fld (pv 4) rfl) (pe_tup (pa_cons (pe_gi T.i_TRUE rfl) (pa_cons (pe_gi T.i_FALSE rfl) pa_nil))) rfl) (pa_cons (pe_op op_add_str (pv 2) pe_str) (pa_cons pe_str pa_nil)))))
      (pss_cons (ps_expr (pe_bm PySem.F.plainAttrs_list PySem.F.slot_list_append PySem.F.type_list_append mt_append (pe_fld (pv 0) rfl) (pa_cons (pe_cmpR op_eq (pe_fld (pv 4) rfl) (pe_gi T.i_TRUE rfl) (nomark _)) pa_nil)))
      (pss_cons (ps_set (i := 5) sc_read_thread.nd rfl (Or.inl rfl) (pe_cal (c_member T) hr (by decide) rfl passC (pa_cons (pv 1) (pa_cons pe_str pa_nil))))
      (pss_cons (ps_set (i := 6) sc_read_thread.nd rfl (Or.inl rfl) (pe_and (pe_cmpR op_eq (pe_fld (pv 5) rfl) (pe_gi T.i_LIST rfl) (nomark _)) (pe_one (pe_cmpR op_le (pe_callB call_len_seq rfl T.f_len boot_len (pa_cons (pe_fld (pv 5) rfl) pa_nil)) (pe_gi T.i_MOST_CODE rfl) (nomark _)))))
      (pss_cons (ps_expr (pe_cal (c_expect T) hr (by decide) rfl passX (pa_cons (pv 6) (pa_cons (pe_op op_add_str (pv 2) pe_str) (pa_cons pe_str pa_nil)))))
      (pss_cons (ps_set (i := 7) sc_read_thread.nd rfl (Or.inl rfl) (pe_lst pa_nil))
      (pss_cons (ps_for (passes_of rfl) rfl (pi_enum rfl T.f_enumerate (pa_cons (pe_fld (pv 5) rfl) pa_nil)) (pg_tup rfl (pgs_cons (pg_name (i := 8) sc_read_thread.nd rfl (Or.inl rfl)) (pgs_cons (pg_name (i := 9) sc_read_thread.nd rfl (Or.inl rfl)) pgs_nil))) (pss_cons (ps_set (i := 10) sc_read_thread.nd rfl (Or.inl rfl) (pe_cal (c_instruction_of T) hr (by decide) rfl passC (pa_cons (pv 9) (pa_cons (pv 0) (pa_cons (pv 3) (pa_cons (pe_callB call_len_seq rfl T.f_len boot_len (pa_cons (pe_fld (pv 5) rfl) pa_nil)) pa_nil))))))
      (pss_cons (ps_expr (pe_cal (c_expect T) hr (by decide) rfl passX (pa_cons (pe_cmpR op_notN (pv 10) pe_non (nomark _)) (pa_cons (pe_op op_add_str (pe_op op_add_str (pe_op op_add_str (pv 2) pe_str) (pe_callTy call_str_int rfl T.f_str (by decide +kernel) (pa_cons (pv 8) pa_nil))) pe_str) (pa_cons pe_str pa_nil)))))
      (pss_one (ps_expr (pe_bm PySem.F.plainAttrs_list PySem.F.slot_list_append PySem.F.type_list_append mt_append (pv 7) (pa_cons (pv 10) pa_nil)))))))
      (pss_one (ps_expr (pe_bm PySem.F.plainAttrs_list PySem.F.slot_list_append PySem.F.type_list_append mt_append (pe_fld (pv 0) rfl) (pa_cons (pv 7) pa_nil)))))))))))))), ?_⟩
  have out : ∀ e : R7285d.Spec.Err, R7285d.Spec.threadAt pq.lo pq.co pq.cv.length th pu (Rust.taken v) = .error e → RefuE K H0 e E := fun e h => by
    rw [h] at q
    exact q
  obtain ⟨hd, a, dx, rfl, ha⟩ := vat_kind hv
  have hA := B.same _ _ (sF _ _ ha)
  refine ⟨_, rfl, r_fld hA T.c_Value T.n_Value_kind vF_kind ⟨rfl, _, rfl, _, _, _, rfl, decide (V.int (kindN v) = V.int 8), ps, _, rfl, rfl, rfl, by omega, pb, by decide +kernel, by decide +kernel, fun hb => ?_, fun hb => ?_⟩⟩
  rotate_left
  · refine ((out _ ?_).up B.same).of (bad_txt (m := "expected an object") pt (by decide +kernel))
    unfold R7285d.Spec.threadAt
    rw [not_obj gv (fun e => by rw [e] at hb; simp at hb)]
    rfl
  obtain ⟨fs, rfl⟩ : ∃ fs, v = .record fs := by
    cases v with
    | record l => exact ⟨l, rfl⟩
    | bool b => cases b <;> simp [kindN] at hb
    | _ => simp [kindN] at hb
  have gfs : goodE fs := goodE_of (by simpa [RWire.noBig] using gv.1) (by simpa [RWire.noOctets] using gv.2.1) (by simpa [RWire.noWide] using gv.2.2)
  rw [thread_of] at q out
  -- the weight
  refine ⟨_, rfl, r_fld B.ins T.c_Program T.n_Program_weights pF_weights ⟨.inl ⟨rfl, _, SqL.of B.hw⟩, _, rfl, _, _, rfl, F, fs, "weight", hv, sF.trans B.same, rfl, by decide +kernel, by decide +kernel, fun H1 wv s1 hwv => ?_⟩⟩
  have gw := memb_good gfs (txt "weight")
  obtain ⟨F1, hw1, sF1⟩ : ∃ F1, VAt K F1 (memb fs (txt "weight")) wv ∧ Same F1 H1 := by
    rcases hwv with h | ⟨h1, h2⟩
    · exact ⟨F, h, sF.trans (B.same.trans s1)⟩
    · exact ⟨H1, by rw [h1]; exact h2, Same.refl _⟩
  have B1 := B.up s1
  have z6 : (PySem.Str.ofString ".weight").cps.size = 7 := by decide +kernel
  have num := num_bt (v := memb fs (txt "weight")) gw (a := 1) (b := 9) (p := R7285d.Spec.dot pu "weight")
  refine ⟨_, rfl, _, _, rfl, rfl, str_line (by rw [z6]; omega), _, _, _, _, rfl, F1, _, ps ++ PySem.Str.ofString ".weight", 1, 9, hw1, sF1, rfl, rfl, rfl, by decide, by decide, by rw [app_size, z6]; omega, byteS_app pb (by decide +kernel), fun wt hwt h0 h9 => ?_, fun hb => ?_⟩
  rotate_left
  · refine ((out _ ?_).up B1.same).of (betw_txt (dot_txt (name := "weight") pt (by decide +kernel)) (by omega) (by omega))
    rw [num, hb]
    rfl
  have bt : isBt (memb fs (txt "weight")) (1 : Nat) (9 : Nat) = true := by
    rw [hwt]
    show (decide (((1 : Nat) : Int) ≤ (wt : Int)) && decide ((wt : Int) ≤ ((9 : Nat) : Int))) = true
    simp only [Bool.and_eq_true, decide_eq_true_eq]
    omega
  have ew : R7285d.Spec.numberAt 1 9 (R7285d.Spec.dot pu "weight") (Rust.taken (memb fs (txt "weight"))) = .ok wt := by
    rw [num, if_pos bt, hwt]
    rfl
  rw [ew] at q out
  refine ⟨L.w, _, _, rfl, rfl, B1.hw, lt_line (by rw [List.length_map]; omega), ?_⟩
  have B2 := B1.app_w wt
  have b2 : Same (bodyP L H) (bodyP L (upd H1 L.w (.lst (pq.wv.map natV ++ [natV wt])))) := by
    rw [bodyP_upd (by simp)]
    exact bodyP_same s1
  generalize upd H1 L.w (.lst (pq.wv.map natV ++ [natV wt])) = H2 at B2 b2
  -- whether it runs at the beginning
  refine ⟨_, rfl, _, _, rfl, F, fs, "started", hv, sF.trans B2.same, rfl, by decide +kernel, by decide +kernel, fun H3 sv s3 hsv => ?_⟩
  have gs := memb_good gfs (txt "started")
  obtain ⟨F3, hs3, sF3⟩ : ∃ F3, VAt K F3 (memb fs (txt "started")) sv ∧ Same F3 H3 := by
    rcases hsv with h | ⟨h1, h2⟩
    · exact ⟨F, h, sF.trans (B2.same.trans s3)⟩
    · exact ⟨H3, by rw [h1]; exact h2, Same.refl _⟩
  have B3 := B2.up s3
  obtain ⟨hd3, a3, dx3, rfl, ha3⟩ := vat_kind hs3
  refine ⟨_, rfl, r_fld (sF3 _ _ ha3) T.c_Value T.n_Value_kind vF_kind ⟨lineOf (by show 2 ≤ 1000; decide), fun b nb => ⟨b, _, rfl, .inr (SqT.of upd_same), rfl, rfl, ?_⟩⟩⟩
  have s4 := same_new (o := .tup [V.int 3, V.int 2]) nb
  have B4 := B3.up s4
  have b4 := b2.trans ((bodyP_same s3).trans (bodyP_same s4))
  have z8 : (PySem.Str.ofString ".started").cps.size = 8 := by decide +kernel
  have bl := bool_law (p := R7285d.Spec.dot pu "started") gs
  refine ⟨_, rfl, _, _, rfl, rfl, str_line (by rw [z8]; omega), _, _, _, rfl, inV (V.int (kindN (memb fs (txt "started")))) [V.int 3, V.int 2], ps ++ PySem.Str.ofString ".started", _, rfl, rfl, rfl, by rw [app_size, z8]; omega, byteS_app pb (by decide +kernel), by decide +kernel, by decide +kernel, fun hb2 => ?_, fun hb2 => ?_⟩
  rotate_left
  · refine ((out _ ?_).up B4.same).of (bad_txt (m := "expected true or false") (dot_txt (name := "started") pt (by decide +kernel)) (by decide +kernel))
    rw [bool_in] at hb2
    cases hO : boolO (memb fs (txt "started")) with
    | some b => rw [hO] at hb2; cases hb2
    | none =>
      rw [hO] at bl
      show R7285d.Spec.andThen _ _ = _
      rw [bl]
      rfl
  obtain ⟨bb, hbb⟩ : ∃ bb, boolO (memb fs (txt "started")) = some bb := by
    rw [bool_in] at hb2
    cases hO : boolO (memb fs (txt "started")) with
    | some b => exact ⟨b, rfl⟩
    | none => rw [hO] at hb2; cases hb2
  rw [hbb] at bl
  have bl : R7285d.Spec.boolAt (R7285d.Spec.dot pu "started") (Rust.taken (memb fs (txt "started"))) = .ok bb := bl
  have q1 : Out (R7285d.Spec.andThen (R7285d.Spec.arrayAt (R7285d.Spec.dot pu "code") 0 30 "expected an array of at most 30 elements" (Rust.taken (memb fs (txt "code")))) fun l =>
    R7285d.Spec.andThen (R7285d.Spec.eachAt (R7285d.Spec.instrAt ⟨pq.lo, pq.co, pq.cv.length, th, l.length⟩) (R7285d.Spec.dot pu "code") 0 l) fun code => (.ok ⟨wt, bb, code⟩ : R7285d.Spec.Res R7285d.Spec.ThreadD)) (fun d => ∀ H' cr, ThGood pq.lo pq.co pq.cv.length th d → PB K H0 H' L { pq with wv := pq.wv ++ [d.weight], sv := pq.sv ++ [d.started], kv := pq.kv ++ [cr] } → Same (bodyP L H) (bodyP L H') → CodeAt (off H0 (bodyP L H')) cr d.code → Q .non H') fun e => RefuE K H0 e E := by
    have q0 := q
    change Out (R7285d.Spec.andThen (R7285d.Spec.boolAt (R7285d.Spec.dot pu "started") (Rust.taken (memb fs (txt "started")))) _) _ _ at q0
    rw [bl] at q0
    exact q0
  refine ⟨_, rfl, r_fld B4.ins T.c_Program T.n_Program_started pF_started ⟨.inl ⟨rfl, _, SqL.of B4.hs⟩, _, rfl, r_fld (s4 _ _ (sF3 _ _ ha3)) T.c_Value T.n_Value_kind vF_kind ⟨rfl, L.s, _, _, rfl, rfl, B4.hs, lt_line (by rw [List.length_map]; show pq.sv.length < _; omega), ?_⟩⟩⟩
  have B5 := B4.app_s bb
  have ebb := bool_eq hbb
  rw [ebb]
  have b5 : Same (bodyP L H) (bodyP L (upd (upd H3 b (.tup [V.int 3, V.int 2])) L.s (.lst (pq.sv.map V.bl ++ [V.bl bb])))) := by
    rw [bodyP_upd (by simp)]
    exact b4
  have B5' : PB K H0 (upd (upd H3 b (.tup [V.int 3, V.int 2])) L.s (.lst (pq.sv.map V.bl ++ [V.bl bb]))) L { pq with wv := pq.wv ++ [wt], sv := pq.sv ++ [bb] } := B5
  generalize upd (upd H3 b (.tup [V.int 3, V.int 2])) L.s (.lst (pq.sv.map V.bl ++ [V.bl bb])) = H5 at B5' b5
  -- the code
  refine ⟨_, rfl, _, _, rfl, F, fs, "code", hv, sF.trans B5'.same, rfl, by decide +kernel, by decide +kernel, fun H6 rv s6 hrv => ?_⟩
  have gc := memb_good gfs (txt "code")
  have B6 := B5'.up s6
  have b6 := b5.trans (bodyP_same s6)
  obtain ⟨F6, hr6, sF6⟩ : ∃ F6, VAt K F6 (memb fs (txt "code")) rv ∧ Same F6 H6 := by
    rcases hrv with h | ⟨h1, h2⟩
    · exact ⟨F, h, sF.trans (B5'.same.trans s6)⟩
    · exact ⟨H6, by rw [h1]; exact h2, Same.refl _⟩
  obtain ⟨hd6, a6, dx6, rfl, ha6⟩ := vat_kind hr6
  have z5 : (PySem.Str.ofString ".code").cps.size = 5 := by decide +kernel
  have nope : ∀ (σ : L2.St) (rest : Ends), σ[6]? = some (some (.bl false)) → σ[2]? = some (some (.str ps)) → (R7285d.Spec.arrayAt (R7285d.Spec.dot pu "code") 0 30 "expected an array of at most 30 elements" (Rust.taken (memb fs (txt "code"))) = R7285d.Spec.bad (R7285d.Spec.dot pu "code") "expected an array of at most 30 elements") →
      tDrop (tCallS (spExpect K) (fun σ => E) (tCons (tVar 6) (tCons (tOp (fun x y H Q => ∃ i j, x = V.str i ∧ y = V.str j ∧ i.length + j.length ≤ sizeLine ∧ Q (V.str (i ++ j)) H) (tVar 2) (tC (V.str ".code"))) (tCons (tC (V.str "expected an array of at most 30 elements")) tNil)))) rest σ H6 := fun σ rest g6 g2 er => by
    rw [er] at q1
    refine ⟨_, g6, _, g2, _, _, rfl, rfl, str_line (by rw [z5]; omega), _, _, _, rfl, false, ps ++ PySem.Str.ofString ".code", _, rfl, rfl, rfl, by rw [app_size, z5]; omega, byteS_app pb (by decide +kernel), by decide +kernel, by decide +kernel, (fun z => by cases z), fun _ => ?_⟩
    exact (RefuE.up q1 B6.same).of (bad_txt (m := "expected an array of at most 30 elements") (dot_txt (name := "code") pt (by decide +kernel)) (by decide +kernel))
  refine ⟨_, rfl, r_fld (sF6 _ _ ha6) T.c_Value T.n_Value_kind vF_kind ⟨rfl, _, rfl, ?_⟩⟩
  cases hl : decide (V.int (kindN (memb fs (txt "code"))) = V.int 7) with
  | false => exact if_f rfl (nope _ _ rfl rfl (not_arr gc (fun e => by rw [e] at hl; simp at hl)))
  | true =>
  obtain ⟨l, ec⟩ : ∃ l, memb fs (txt "code") = .list l := by
    cases hm : memb fs (txt "code") with
    | list l => exact ⟨l, rfl⟩
    | bool b => rw [hm] at hl; cases b <;> simp [kindN] at hl
    | _ => rw [hm] at hl; simp [kindN] at hl
  have hrF : VAt K F (.list l) (.ref a6) := by
    rcases hrv with h | ⟨h1, h2⟩
    · rw [ec] at h
      exact h
    · rw [ec] at h1
      cases h1
  rw [ec] at q1 nope gc
  obtain ⟨p, xs, ⟨a', dx', e, ha'⟩, hp, hxs⟩ := hrF
  cases e
  have gl : goodL l := goodL_of (by simpa [RWire.noBig] using gc.1) (by simpa [RWire.noOctets] using gc.2.1) (by simpa [RWire.noWide] using gc.2.2)
  have tk : Rust.taken (.list l) = .arr (l.map Rust.taken) := by rw [Rust.taken, takenAll_map]
  have hA' := B6.same _ _ (sF _ _ ha')
  have hP := B6.same _ _ (sF _ _ hp)
  refine if_t rfl ⟨_, rfl, r_fld hA' T.c_Value T.n_Value_held vF_held ⟨p, _, rfl, .inl (SqL.of hP), _, _, rfl, rfl, ?_⟩⟩
  rw [hxs.len]
  by_cases c30 : l.length ≤ 30
  rotate_left
  · dsimp only
    rw [decide_eq_false (by omega)]
    refine nope _ _ rfl rfl ?_
    rw [tk]
    show (if 0 ≤ (l.map Rust.taken).length ∧ (l.map Rust.taken).length ≤ 30 then _ else _) = _
    rw [if_neg (by rw [List.length_map]; omega)]
  dsimp only
  rw [decide_eq_true (by omega)]
  have ar : R7285d.Spec.arrayAt (R7285d.Spec.dot pu "code") 0 30 "expected an array of at most 30 elements" (Rust.taken (.list l)) = .ok (l.map Rust.taken) := by
    rw [tk]
    show (if 0 ≤ (l.map Rust.taken).length ∧ (l.map Rust.taken).length ≤ 30 then _ else _) = _
    rw [if_pos (by rw [List.length_map]; omega)]
  rw [ar] at q1
  refine ⟨_, rfl, _, rfl, _, _, rfl, rfl, str_line (by rw [z5]; omega), _, _, _, rfl, true, ps ++ PySem.Str.ofString ".code", _, rfl, rfl, rfl, by rw [app_size, z5]; omega, byteS_app pb (by decide +kernel), by decide +kernel, by decide +kernel, fun _ => ?_, (fun z => by cases z)⟩
  refine ⟨lineOf (by show 0 ≤ 1000; decide), fun D nD => ?_⟩
  have sD := same_new (o := .lst []) nD
  have nD0 : H0 D = none := B6.same.free nD
  have pD := notP B6 nD
  have xD : bodyP L H D = none := by
    rcases none_or (bodyP L H D) with e | ⟨o, e⟩
    · exact e
    · have := b6 _ _ e
      unfold bodyP at this
      split at this
      · cases this
      · rw [nD] at this
        cases this
  refine ⟨_, rfl, r_fld (sD _ _ hA') T.c_Value T.n_Value_held vF_held ⟨p, _, rfl, SqL.of (sD _ _ hP), ?_⟩⟩
  have q2 : Out (R7285d.Spec.andThen (R7285d.Spec.eachAt (R7285d.Spec.instrAt ⟨pq.lo, pq.co, pq.cv.length, th, l.length⟩) (R7285d.Spec.dot pu "code") 0 (l.map Rust.taken)) fun code => (.ok ⟨wt, bb, code⟩ : R7285d.Spec.Res R7285d.Spec.ThreadD)) (fun d => ∀ H' cr, ThGood pq.lo pq.co pq.cv.length th d → PB K H0 H' L { pq with wv := pq.wv ++ [d.weight], sv := pq.sv ++ [d.started], kv := pq.kv ++ [cr] } → Same (bodyP L H) (bodyP L H') → CodeAt (off H0 (bodyP L H')) cr d.code → Q .non H') fun e => RefuE K H0 e E := by
    have q0 := q1
    change Out (R7285d.Spec.andThen (R7285d.Spec.eachAt (R7285d.Spec.instrAt ⟨pq.lo, pq.co, pq.cv.length, th, (l.map Rust.taken).length⟩) _ _ _) _) _ _ at q0
    rw [List.length_map] at q0
    exact q0
  obtain ⟨res, hres⟩ : ∃ res, R7285d.Spec.eachAt (R7285d.Spec.instrAt ⟨pq.lo, pq.co, pq.cv.length, th, l.length⟩) (R7285d.Spec.dot pu "code") 0 (l.map Rust.taken) = res := ⟨_, rfl⟩
  rw [hres] at q2
  have er0 : res = R7285d.Spec.andThen (R7285d.Spec.eachAt (R7285d.Spec.instrAt ⟨pq.lo, pq.co, pq.cv.length, th, l.length⟩) (R7285d.Spec.dot pu "code") 0 ((l.drop 0).map Rust.taken)) fun r => .ok (([] : List Ins) ++ r) := by
    rw [List.drop_zero, hres]
    cases res <;> rfl
  refine for_it walk_enum (fun i σ H9 => ∃ (ds : List Ins) (as : List Addr), ds.length = i ∧ as.length = i ∧ PB K H0 H9 L { pq with wv := pq.wv ++ [wt], sv := pq.sv ++ [bb] } ∧ Same (bodyP L H) (bodyP L H9) ∧ H9 D = some (.lst (as.map V.ref)) ∧ All2 (fun a i => EvAt (butD D (off H0 (bodyP L H9))) a (insName i) (insNums i)) as ds ∧
      res = R7285d.Spec.andThen (R7285d.Spec.eachAt (R7285d.Spec.instrAt ⟨pq.lo, pq.co, pq.cv.length, th, l.length⟩) (R7285d.Spec.dot pu "code") i ((l.drop i).map Rust.taken)) (fun r => .ok (ds ++ r)) ∧ (∀ x ∈ ds, InsFit pq.lo pq.co pq.cv.length th l.length x) ∧
      ∃ o4 o6 o8 o9 o10, σ = [some (.ref L.pr), some (.ref a), some (.str ps), some (natV th), o4, some (.ref a6), o6, some (.ref D), o8, o9, o10])
    ⟨[], [], rfl, rfl, B6.up sD, b6.trans (bodyP_same sD), upd_same, All2.nil, er0, (fun x hx => by cases hx), _, _, _, _, _, rfl⟩ (fun i σ H9 _ ⟨ds, as, _, _, B9, _⟩ => SqL.of (B9.same _ _ (sF _ _ hp))) ?_ ?_
  · rintro i t σ H9 H10 hi ⟨ds, as, lds, las, B9, b9, hD, ev, er, fit, o4, o6, o8, o9, o10, rfl⟩ ⟨Tt, x0, y0, rfl, nT, rfl, g1, g2⟩
    cases g1
    have g2' : xs[i]? = some y0 := g2
    obtain ⟨u, gu, hu⟩ := hxs.get g2'
    have ggu := gl u (List.mem_of_getElem? gu)
    have hi' : i < l.length := (List.getElem?_eq_some_iff.mp gu).1
    have sT := same_new (o := .tup [.int (i : Nat), y0]) nT
    have B10 := B9.up sT
    have dr : l.drop i = u :: l.drop (i + 1) := by
      rw [List.drop_eq_getElem_cons hi']
      have : l[i] = u := (List.getElem?_eq_some_iff.mp gu).2
      rw [this]
    rw [dr, List.map_cons] at er
    obtain ⟨bad, good⟩ := each_step er
    have law := ins_law (lo := pq.lo) (co := pq.co) (sh := pq.cv.length) (th := th) (len := l.length) ggu (R7285d.Spec.item (R7285d.Spec.dot pu "code") i)
    have i40 : i ≤ 40 := by omega
    obtain ⟨y1, y2, _⟩ := decS_ok i40
    have z7 : (PySem.Str.ofString ".code[").cps.size = 6 := by decide +kernel
    have z1 : (PySem.Str.ofString "]").cps.size = 1 := by decide +kernel
    have pt2 : txt (ps ++ PySem.Str.ofString ".code[" ++ decS i ++ PySem.Str.ofString "]") = uo (R7285d.Spec.item (R7285d.Spec.dot pu "code") i) := item_txt (by
      rw [txt_app, pt]
      unfold R7285d.Spec.dot
      rw [uo_app, uo_app, List.append_assoc]
      congr 1) i40
    have pb2 : byteS (ps ++ PySem.Str.ofString ".code[" ++ decS i ++ PySem.Str.ofString "]") := byteS_app (byteS_app (byteS_app pb (by decide +kernel)) y2) (by decide +kernel)
    have sz2 : (ps ++ PySem.Str.ofString ".code[" ++ decS i ++ PySem.Str.ofString "]").cps.size ≤ 200 := by
      rw [app_size, app_size, app_size, z7, z1]
      omega
    have l1 : ps.length + (PySem.Str.ofString ".code[").length ≤ sizeLine := str_line (by rw [z7]; omega)
    have l2 : (ps ++ PySem.Str.ofString ".code[").length + (PySem.Str.ofString (toString ((i : Nat) : Int))).length ≤ sizeLine := str_line (by
      show _ + (decS i).cps.size ≤ _
      rw [app_size, z7]
      omega)
    have l3 : (ps ++ PySem.Str.ofString ".code[" ++ PySem.Str.ofString (toString ((i : Nat) : Int))).length + (PySem.Str.ofString "]").length ≤ sizeLine := str_line (by
      show (ps ++ PySem.Str.ofString ".code[" ++ decS i).cps.size + _ ≤ _
      rw [app_size, app_size, z7, z1]
      omega)
    refine ⟨Tt, _, rfl, SqT.of upd_same, rfl, _, _, rfl, _, _, rfl, rfl, ?_⟩
    refine ⟨_, rfl, _, rfl, _, rfl, _, rfl, r_fld (B10.same _ _ (sF _ _ ha')) T.c_Value T.n_Value_held vF_held ⟨p, _, rfl, .inl (SqL.of (B10.same _ _ (sF _ _ hp))), _, _, _, _, rfl, F, u, H0, L, _, th, l.length, hu, sF, rfl, rfl, by rw [hxs.len], B10, fun H11 s11 => ?_⟩⟩
    have B11 := B10.up s11
    cases hin : insV pq.lo pq.co pq.cv.length th l.length u with
    | none =>
      rw [hin] at law
      have law : R7285d.Spec.instrAt ⟨pq.lo, pq.co, pq.cv.length, th, l.length⟩ (R7285d.Spec.item (R7285d.Spec.dot pu "code") i) (Rust.taken u) = R7285d.Spec.bad (R7285d.Spec.item (R7285d.Spec.dot pu "code") i) "expected an instruction" := law
      have e2 := bad _ law
      rw [e2] at q2
      refine ⟨_, rfl, rfl, _, rfl, _, _, rfl, rfl, l1, _, rfl, _, rfl, small_log i40, _, _, rfl, rfl, l2, _, _, rfl, rfl, l3, _, _, _, rfl, false, ps ++ PySem.Str.ofString ".code[" ++ decS i ++ PySem.Str.ofString "]", _, rfl, rfl, rfl, by omega, pb2, by decide +kernel, by decide +kernel, (fun z => by cases z), fun _ => ?_⟩
      exact (RefuE.up q2 B11.same).of (bad_txt (m := "expected an instruction") pt2 (by decide +kernel))
    | some r =>
      rw [hin] at law
      intro a2 nl nna nnl ha2 hnl
      obtain ⟨ins, h1, h2, h3, h4⟩ := (show ∃ i', _ ∧ _ ∧ _ ∧ _ from law)
      have e2 := good _ h1
      refine ⟨_, rfl, rfl, _, rfl, _, _, rfl, rfl, l1, _, rfl, _, rfl, small_log i40, _, _, rfl, rfl, l2, _, _, rfl, rfl, l3, _, _, _, rfl, true, ps ++ PySem.Str.ofString ".code[" ++ decS i ++ PySem.Str.ofString "]", _, rfl, rfl, rfl, by omega, pb2, by decide +kernel, by decide +kernel, fun _ => ?_, (fun z => by cases z)⟩
      have hD11 := s11 _ _ (sT _ _ hD)
      have b11 := b9.trans ((bodyP_same sT).trans (bodyP_same s11))
      refine ⟨_, rfl, .inl ⟨rfl, _, SqL.of hD11⟩, _, rfl, D, _, _, rfl, rfl, hD11, lt_line (by rw [List.length_map]; omega), ds ++ [ins], as ++ [a2], by simp [lds], by simp [las], B11.wr nD0 pD _, same_bodyD xD b11, by rw [upd_same, List.map_append]; rfl, ?_, e2, fun x hx => ?_, _, _, _, _, _, rfl⟩
      · rw [butD_wr]
        refine All2.append (ev.mono fun a i k => k.up (butD_same (off_same ((bodyP_same sT).trans (bodyP_same s11))))) (All2.one ⟨nl, ?_, ?_⟩)
        · rw [← h2]
          unfold butD
          rw [if_neg (ne_of ha2 hD11 (fun z => nomatch z))]
          rw [off_none (B10.same.free nna)]
          exact bodyP_tup B11 ha2
        · rw [← h3]
          unfold butD
          rw [if_neg (fun z => by rw [z, sT _ _ hD] at nnl; cases nnl)]
          rw [off_none (B10.same.free nnl)]
          exact bodyP_new B10 nnl hnl
      · rcases List.mem_append.mp hx with h | h
        · exact fit x h
        · rw [List.mem_singleton.mp h]
          exact h4
  · rintro σ H9 ⟨ds, as, lds, las, B9, b9, hD, ev, er, fit, o4, o6, o8, o9, o10, rfl⟩
    rw [hxs.len] at lds las
    rw [hxs.len, List.drop_length] at er
    have er : res = .ok (ds ++ []) := er
    rw [er, List.append_nil] at q2
    refine ⟨_, rfl, r_fld B9.ins T.c_Program T.n_Program_codes pF_codes ⟨.inl ⟨rfl, _, SqL.of B9.hk⟩, _, rfl, L.k, _, _, rfl, rfl, B9.hk, lt_line (by rw [List.length_map]; show pq.kv.length < _; omega), ?_⟩⟩
    have B12 := B9.app_k D
    refine q2 _ D ⟨?_, ?_, by show ds.length ≤ 30; omega, fun x hx => ?_⟩ B12 ?_ ?_
    · omega
    · omega
    · show InsFit _ _ _ _ ds.length x
      rw [lds]
      exact fit x hx
    · rw [bodyP_upd (by simp)]
      exact b9
    · rw [bodyP_upd (by simp)]
      refine ⟨as, ?_, ev.mono fun a i k => k.up butD_in⟩
      rw [off_none nD0]
      unfold bodyP
      rw [if_neg pD]
      exact hD
end
end CT


namespace CT
open PySem PySem.Spec PyProof.Rows L2
theorem out_by {α : Type} {r : R7285d.Spec.Res α} {ok : α → Prop} {err : R7285d.Spec.Err → Prop} (h1 : ∀ a, r = .ok a → ok a) (h2 : ∀ e, r = .error e → err e) : Out r ok err := by
  cases r with
  | error e => exact h2 e rfl
  | ok a => exact h1 a rfl
theorem then_assoc {α β γ : Type} (x : R7285d.Spec.Res α) (f : α → R7285d.Spec.Res β) (g : β → R7285d.Spec.Res γ) : R7285d.Spec.andThen (R7285d.Spec.andThen x f) g = R7285d.Spec.andThen x fun a => R7285d.Spec.andThen (f a) g := by
  cases x <;> rfl
theorem prog_of {fs : List (RWire.Text × RWire.Value)} : R7285d.Spec.programOf (Rust.taken (.record fs)) = R7285d.Spec.andThen (R7285d.Spec.numberAt 1 4 (R7285d.Spec.units "description.locks") (Rust.taken (memb fs (txt "locks")))) fun lo =>
    R7285d.Spec.andThen (R7285d.Spec.numberAt 0 4 (R7285d.Spec.units "description.conditions") (Rust.taken (memb fs (txt "conditions")))) fun co =>
    R7285d.Spec.andThen (sharedR lo (memb fs (txt "shared"))) fun shared =>
    R7285d.Spec.andThen (R7285d.Spec.arrayAt (R7285d.Spec.units "description.threads") 1 4 "expected an array of 1 to 4 elements" (Rust.taken (memb fs (txt "threads")))) fun l =>
    R7285d.Spec.andThen (R7285d.Spec.eachAt (R7285d.Spec.threadAt lo co shared.length l.length) (R7285d.Spec.units "description.threads") 0 l) fun threads => .ok ⟨lo, co, shared, threads⟩ := by
  have t1 : txt (PySem.Str.ofString "locks") = uo (R7285d.Spec.units "locks") := by decide +kernel
  have t2 : txt (PySem.Str.ofString "conditions") = uo (R7285d.Spec.units "conditions") := by decide +kernel
  have t3 : txt (PySem.Str.ofString "shared") = uo (R7285d.Spec.units "shared") := by decide +kernel
  have t4 : txt (PySem.Str.ofString "threads") = uo (R7285d.Spec.units "threads") := by decide +kernel
  have f1 : R7285d.Spec.field (Rust.takenFields fs) "locks" = Rust.taken (memb fs (txt "locks")) := by rw [field_memb (by unfold narrowU; decide +kernel), t1]
  have f2 : R7285d.Spec.field (Rust.takenFields fs) "conditions" = Rust.taken (memb fs (txt "conditions")) := by rw [field_memb (by unfold narrowU; decide +kernel), t2]
  have f3 : R7285d.Spec.field (Rust.takenFields fs) "shared" = Rust.taken (memb fs (txt "shared")) := by rw [field_memb (by unfold narrowU; decide +kernel), t3]
  have f4 : R7285d.Spec.field (Rust.takenFields fs) "threads" = Rust.taken (memb fs (txt "threads")) := by rw [field_memb (by unfold narrowU; decide +kernel), t4]
  unfold sharedR
  rw [← f1, ← f2, ← f3, ← f4]
  unfold R7285d.Spec.programOf
  rw [Rust.taken]
  simp only [then_assoc]
  rfl
theorem each_ok {α : Type} {f : Units → R7285d.Spec.Plain → R7285d.Spec.Res α} {p : Units} : ∀ {l : List R7285d.Spec.Plain} {k : Nat} {ds : List α}, R7285d.Spec.eachAt f p k l = .ok ds → ds.length = l.length ∧ ∀ d ∈ ds, ∃ j x, f (R7285d.Spec.item p j) x = .ok d
  | [], k, ds, h => by
    cases h
    exact ⟨rfl, fun d hd => by cases hd⟩
  | x :: l, k, ds, h => by
    have h : R7285d.Spec.andThen (f (R7285d.Spec.item p k) x) (fun b => R7285d.Spec.andThen (R7285d.Spec.eachAt f p (k + 1) l) fun l => .ok (b :: l)) = .ok ds := h
    cases hf : f (R7285d.Spec.item p k) x with
    | error e => rw [hf] at h; cases h
    | ok b =>
      rw [hf] at h
      have h : R7285d.Spec.andThen (R7285d.Spec.eachAt f p (k + 1) l) (fun l => .ok (b :: l)) = .ok ds := h
      cases hr : R7285d.Spec.eachAt f p (k + 1) l with
      | error e => rw [hr] at h; cases h
      | ok r =>
        rw [hr] at h
        cases h
        obtain ⟨h1, h2⟩ := each_ok hr
        refine ⟨by rw [List.length_cons, List.length_cons, h1], fun d hd => ?_⟩
        rcases List.mem_cons.mp hd with rfl | hd
        · exact ⟨k, x, hf⟩
        · exact h2 d hd
theorem number_ok {a b : Nat} {p : Units} {x : R7285d.Spec.Plain} {n : Nat} (h : R7285d.Spec.numberAt a b p x = .ok n) : n ≤ b := by
  unfold R7285d.Spec.numberAt R7285d.Spec.integerIn at h
  cases hi : R7285d.Spec.integerOf x with
  | none => rw [hi] at h; cases h
  | some i =>
    rw [hi] at h
    simp only [Option.bind] at h
    by_cases c : Int.ofNat a ≤ i ∧ i ≤ Int.ofNat b
    · rw [if_pos c] at h
      cases h
      have := c.2
      have h2 : i ≤ (b : Int) := this
      omega
    · rw [if_neg c] at h
      cases h
theorem shared_ok {lo : Nat} (l1 : 1 ≤ lo) {v : RWire.Value} {ds : List R7285d.Spec.SharedD} (h : sharedR lo v = .ok ds) : ds.length ≤ 6 ∧ ∀ d ∈ ds, d.guard < lo := by
  unfold sharedR at h
  cases ha : R7285d.Spec.arrayAt (R7285d.Spec.units "description.shared") 0 6 "expected an array of at most 6 elements" (Rust.taken v) with
  | error e => rw [ha] at h; cases h
  | ok l =>
    rw [ha] at h
    have h : R7285d.Spec.eachAt (R7285d.Spec.sharedAt lo) (R7285d.Spec.units "description.shared") 0 l = .ok ds := h
    obtain ⟨h1, h2⟩ := each_ok h
    refine ⟨?_, fun d hd => ?_⟩
    · rw [h1]
      unfold R7285d.Spec.arrayAt at ha
      split at ha
      · split at ha
        · rename_i c
          cases ha
          exact c.2
        · cases ha
      · cases ha
    · obtain ⟨j, x, hx⟩ := h2 d hd
      unfold R7285d.Spec.sharedAt at hx
      cases h3 : R7285d.Spec.objectAt (R7285d.Spec.item (R7285d.Spec.units "description.shared") j) x with
      | error e => rw [h3] at hx; cases hx
      | ok fs =>
        rw [h3] at hx
        simp only [R7285d.Spec.andThen] at hx
        split at hx
        · cases hx
        · split at hx
          · cases hx
          · rename_i n hn
            cases hx
            have := number_ok hn
            simp only
            omega
section
variable {P : Program} {w : World} {K : PySem.W.Frag} {mg : PySem.Str → Option Value} {base : Heap}
def spProgramOf (K : PySem.W.Frag) : Sp := sp1 fun x H Q E => ∃ F v, VAt K F v x ∧ goodV v ∧ Same F H ∧ Out (R7285d.Spec.programOf (Rust.taken v)) (fun g => ∀ H' pa crs, Same H H' → H pa = none → Fit g → PAt K (off H H') pa g crs → Q (.ref pa) H') fun e => RefuE K H e E
abbrev n_program_of : List PySem.Str := ["value", "program", "conditions", "rows", "is_good", "at", "row"]
theorem sc_program_of : FnScope n_program_of ["value"] d_program_of.scope := ⟨rfl, rfl, rfl, by decide +kernel, rfl, by decide +kernel, by decide +kernel⟩
theorem c_program_of (T : Tx w K mg) : Cal (XN P w) P w K mg base 7 "program_of" (spProgramOf K) := by
  refine cal_mk T.fd_program_of T.g_program_of sc_program_of (fun _ _ _ _ _ _ us hl => match us, hl with | [_], _ => rfl) (fun _ _ _ _ h => sp1_len h) (fun f cdv A outer s H vs Q E hr h => ?_)
  obtain ⟨x, rfl, F, v, hv, gv, sF, q⟩ := h
  refine ⟨_, (pss_cons (ps_expr (pe_cal (c_expect T) hr (by decide) rfl passX (pa_cons (pe_cmpR op_eq (pe_fld (pv 0) rfl) (pe_gi T.i_RECORD rfl) (nomark _)) (pa_cons pe_str (pa_cons pe_str pa_nil)))))
      (pss_cons (ps_set (i := 1) sc_program_of.nd rfl (Or.inl rfl) (pe_new0 (new_Program T) hr (by decide) rfl))
      (pss_cons (ps_fld (pv 1) (pe_cal (c_expect_number T) hr (by decide) rfl passX (pa_cons (pe_cal (c_member T) hr (by decide) rfl passC (pa_cons (pv 0) (pa_cons pe_str pa_nil))) (pa_cons pe_str (pa_cons pe_int (pa_cons (pe_gi T.i_MOST_LOCKS rfl) pa_nil))))) rfl)
      (pss_cons (ps_set (i := 2) sc_program_of.nd rfl (Or.inl rfl) (pe_cal (c_member T) hr (by decide) rfl passC (pa_cons (pv 0) (pa_cons pe_str pa_nil))))
      (pss_cons (ps_fld (pv 1) (pe_cal (c_expect_number T) hr (by decide) rfl passX (pa_cons (pv 2) (pa_cons pe_str (pa_cons pe_int (pa_cons (pe_gi T.i_MOST_CONDITIONS rfl) pa_nil))))) rfl)
      (pss_cons (ps_expr (pe_cal (c_read_shared T) hr (by decide) rfl passX (pa_cons (pv 1) (pa_cons (pe_cal (c_member T) hr (by decide) rfl passC (pa_cons (pv 0) (pa_cons pe_str pa_nil))) pa_nil))))
      (pss_cons (ps_set (i := 3) sc_program_of.nd rfl (Or.inl rfl) (pe_cal (c_member T) hr (by decide) rfl passC (pa_cons (pv 0) (pa_cons pe_str pa_nil))))
      (pss_cons (ps_set (i := 4) sc_program_of.nd rfl (Or.inl rfl) (pe_and (pe_cmpR op_eq (pe_fld (pv 3) rfl) (pe_gi T.i_LIST rfl) (nomark _)) (pe_and (pe_cmpR op_le pe_int (pe_callB call_len_seq rfl T.f_len boot_len (pa_cons (pe_fld (pv 3) rfl) pa_nil)) (nomark _)) (pe_one (pe_cmpR op_le (pe_callB call_len_seq rfl T.f_len boot_len (pa_cons (pe_fld (pv 3) rfl) pa_nil)) (pe_gi T.i_MOST_THREADS rfl) (nomark _))))))
      (pss_cons (ps_expr (pe_cal (c_expect T) hr (by decide) rfl passX (pa_cons (pv 4) (pa_cons pe_str (pa_cons pe_str pa_nil)))))
      (pss_cons (ps_for (passes_of rfl) rfl (pi_enum rfl T.f_enumerate (pa_cons (pe_fld (pv 3) rfl) pa_nil)) (pg_tup rfl (pgs_cons (pg_name (i := 5) sc_program_of.nd rfl (Or.inl rfl)) (pgs_cons (pg_name (i := 6) sc_program_of.nd rfl (Or.inl rfl)) pgs_nil))) (pss_one (ps_expr (pe_cal (c_read_thread T) hr (by decide) rfl passX (pa_cons (pv 1) (pa_cons (pv 6) (pa_cons (pe_op op_add_str (pe_op op_add_str pe_str (pe_callTy call_str_int rfl T.f_str (by decide +kernel) (pa_cons (pv 5) pa_nil))) pe_str) (pa_cons (pe_callB call_len_seq rfl T.f_len boot_len (pa_cons (pe_fld (pv 3) rfl) pa_nil)) pa_nil))))))))
      (pss_one (ps_ret (pv 1))))))))))))), ?_⟩
  have out : ∀ e : R7285d.Spec.Err, R7285d.Spec.programOf (Rust.taken v) = .error e → RefuE K H e E := fun e h => by
    rw [h] at q
    exact q
  obtain ⟨hd, a, dx, rfl, ha⟩ := vat_kind hv
  have hA := sF _ _ ha
  refine ⟨_, rfl, r_fld hA T.c_Value T.n_Value_kind vF_kind ⟨rfl, _, _, _, rfl, decide (V.int (kindN v) = V.int 8), _, _, rfl, rfl, rfl, by decide +kernel, by decide +kernel, by decide +kernel, by decide +kernel, fun hb => ?_, fun hb => ?_⟩⟩
  rotate_left
  · refine (out _ ?_).of (bad_txt (p := R7285d.Spec.units "description") (m := "expected an object") (by decide +kernel) (by decide +kernel))
    unfold R7285d.Spec.programOf
    rw [not_obj gv (fun e => by rw [e] at hb; simp at hb)]
    rfl
  obtain ⟨fs, rfl⟩ : ∃ fs, v = .record fs := by
    cases v with
    | record l => exact ⟨l, rfl⟩
    | bool b => cases b <;> simp [kindN] at hb
    | _ => simp [kindN] at hb
  have gfs : goodE fs := goodE_of (by simpa [RWire.noBig] using gv.1) (by simpa [RWire.noOctets] using gv.2.1) (by simpa [RWire.noWide] using gv.2.2)
  rw [prog_of] at q
  refine ⟨rfl, fun H1 L B => ?_⟩
  -- the locks
  refine ⟨_, rfl, _, _, rfl, F, fs, "locks", hv, sF.trans B.same, rfl, by decide +kernel, by decide +kernel, fun H2 lv s2 hlv => ?_⟩
  have B2 := B.up s2
  obtain ⟨F2, h2, sF2⟩ : ∃ F2, VAt K F2 (memb fs (txt "locks")) lv ∧ Same F2 H2 := by
    rcases hlv with h | ⟨h1, h2⟩
    · exact ⟨F, h, sF.trans B2.same⟩
    · exact ⟨H2, by rw [h1]; exact h2, Same.refl _⟩
  have num := num_bt (v := memb fs (txt "locks")) (memb_good gfs _) (a := 1) (b := 4) (p := R7285d.Spec.units "description.locks")
  refine ⟨_, _, _, _, rfl, F2, _, PySem.Str.ofString "description.locks", 1, 4, h2, sF2, rfl, rfl, rfl, by decide, by decide, by decide +kernel, by decide +kernel, fun lo hlo l1 l4 => ?_, fun hb => ?_⟩
  rotate_left
  · rw [num, hb] at q
    exact (RefuE.up q B2.same).of (betw_txt (by decide +kernel) (by omega) (by omega))
  have bt : isBt (memb fs (txt "locks")) (1 : Nat) (4 : Nat) = true := by
    rw [hlo]
    show (decide (((1 : Nat) : Int) ≤ (lo : Int)) && decide ((lo : Int) ≤ ((4 : Nat) : Int))) = true
    simp only [Bool.and_eq_true, decide_eq_true_eq]
    omega
  rw [num, if_pos bt, hlo] at q
  have q := (show Out (R7285d.Spec.andThen (R7285d.Spec.numberAt 0 4 (R7285d.Spec.units "description.conditions") (Rust.taken (memb fs (txt "conditions")))) fun co =>
    R7285d.Spec.andThen (sharedR lo (memb fs (txt "shared"))) fun shared =>
    R7285d.Spec.andThen (R7285d.Spec.arrayAt (R7285d.Spec.units "description.threads") 1 4 "expected an array of 1 to 4 elements" (Rust.taken (memb fs (txt "threads")))) fun l =>
    R7285d.Spec.andThen (R7285d.Spec.eachAt (R7285d.Spec.threadAt lo co shared.length l.length) (R7285d.Spec.units "description.threads") 0 l) fun threads => (.ok ⟨lo, co, shared, threads⟩ : R7285d.Spec.Res Prog)) _ _ from q)
  refine ⟨_, rfl, B2.put_locks lo T.c_Program T.n_Program_locks fun H3 B3 => ?_⟩
  -- the conditions
  refine ⟨_, rfl, _, _, rfl, F, fs, "conditions", hv, sF.trans B3.same, rfl, by decide +kernel, by decide +kernel, fun H4 cv s4 hcv => ?_⟩
  have B4 := B3.up s4
  obtain ⟨F4, h4, sF4⟩ : ∃ F4, VAt K F4 (memb fs (txt "conditions")) cv ∧ Same F4 H4 := by
    rcases hcv with h | ⟨h1, h2⟩
    · exact ⟨F, h, sF.trans B4.same⟩
    · exact ⟨H4, by rw [h1]; exact h2, Same.refl _⟩
  have num2 := num_bt (v := memb fs (txt "conditions")) (memb_good gfs _) (a := 0) (b := 4) (p := R7285d.Spec.units "description.conditions")
  refine ⟨_, rfl, _, _, _, _, rfl, F4, _, PySem.Str.ofString "description.conditions", 0, 4, h4, sF4, rfl, rfl, rfl, by decide, by decide, by decide +kernel, by decide +kernel, fun co hco _ c4' => ?_, fun hb => ?_⟩
  rotate_left
  · rw [num2, hb] at q
    exact (RefuE.up q B4.same).of (betw_txt (by decide +kernel) (by omega) (by omega))
  have bt2 : isBt (memb fs (txt "conditions")) (0 : Nat) (4 : Nat) = true := by
    rw [hco]
    show (decide (((0 : Nat) : Int) ≤ (co : Int)) && decide ((co : Int) ≤ ((4 : Nat) : Int))) = true
    simp only [Bool.and_eq_true, decide_eq_true_eq]
    omega
  rw [num2, if_pos bt2, hco] at q
  have q := (show Out (R7285d.Spec.andThen (sharedR lo (memb fs (txt "shared"))) fun shared =>
    R7285d.Spec.andThen (R7285d.Spec.arrayAt (R7285d.Spec.units "description.threads") 1 4 "expected an array of 1 to 4 elements" (Rust.taken (memb fs (txt "threads")))) fun l =>
    R7285d.Spec.andThen (R7285d.Spec.eachAt (R7285d.Spec.threadAt lo co shared.length l.length) (R7285d.Spec.units "description.threads") 0 l) fun threads => (.ok ⟨lo, co, shared, threads⟩ : R7285d.Spec.Res Prog)) _ _ from q)
  refine ⟨_, rfl, B4.put_conditions co T.c_Program T.n_Program_conditions fun H5 B5 => ?_⟩
  -- the shared variables
  refine ⟨_, rfl, _, rfl, _, _, rfl, F, fs, "shared", hv, sF.trans B5.same, rfl, by decide +kernel, by decide +kernel, fun H6 sv s6 hsv => ?_⟩
  have B6 := B5.up s6
  refine ⟨_, _, rfl, F, memb fs (txt "shared"), H, L, ⟨lo, co, [], [], [], [], []⟩, ?_, memb_good gfs _, rfl, B6, l1, l4, rfl, rfl, ?_⟩
  · rcases hsv with h | ⟨h1, h2⟩
    · exact .inl ⟨h, sF⟩
    · exact .inr ⟨h1, h2⟩
  cases hsh : sharedR lo (memb fs (txt "shared")) with
  | error e =>
    rw [hsh] at q
    exact q
  | ok shared =>
  rw [hsh] at q
  intro H7 B7
  have q := (show Out (R7285d.Spec.andThen (R7285d.Spec.arrayAt (R7285d.Spec.units "description.threads") 1 4 "expected an array of 1 to 4 elements" (Rust.taken (memb fs (txt "threads")))) fun l =>
    R7285d.Spec.andThen (R7285d.Spec.eachAt (R7285d.Spec.threadAt lo co shared.length l.length) (R7285d.Spec.units "description.threads") 0 l) fun threads => (.ok ⟨lo, co, shared, threads⟩ : R7285d.Spec.Res Prog)) _ _ from q)
  obtain ⟨sh6, gds⟩ := shared_ok l1 hsh
  -- the threads
  refine ⟨_, rfl, _, _, rfl, F, fs, "threads", hv, sF.trans B7.same, rfl, by decide +kernel, by decide +kernel, fun H8 rv s8 hrv => ?_⟩
  have B8 := B7.up s8
  have gc := memb_good gfs (txt "threads")
  obtain ⟨F8, hr8, sF8⟩ : ∃ F8, VAt K F8 (memb fs (txt "threads")) rv ∧ Same F8 H8 := by
    rcases hrv with h | ⟨h1, h2⟩
    · exact ⟨F, h, sF.trans B8.same⟩
    · exact ⟨H8, by rw [h1]; exact h2, Same.refl _⟩
  obtain ⟨hd8, a8, dx8, rfl, ha8⟩ := vat_kind hr8
  have pl : txt (PySem.Str.ofString "description.threads") = uo (R7285d.Spec.units "description.threads") := by decide +kernel
  have nope : ∀ (σ : L2.St) (rest : Ends), σ[4]? = some (some (.bl false)) → (R7285d.Spec.arrayAt (R7285d.Spec.units "description.threads") 1 4 "expected an array of 1 to 4 elements" (Rust.taken (memb fs (txt "threads"))) = R7285d.Spec.bad (R7285d.Spec.units "description.threads") "expected an array of 1 to 4 elements") →
      tDrop (tCallS (spExpect K) (fun σ => E) (tCons (tVar 4) (tCons (tC (V.str "description.threads")) (tCons (tC (V.str "expected an array of 1 to 4 elements")) tNil)))) rest σ H8 := fun σ rest g4 er => by
    rw [er] at q
    refine ⟨_, g4, _, _, _, rfl, false, _, _, rfl, rfl, rfl, by decide +kernel, by decide +kernel, by decide +kernel, by decide +kernel, (fun z => by cases z), fun _ => ?_⟩
    exact (RefuE.up q B8.same).of (bad_txt (m := "expected an array of 1 to 4 elements") pl (by decide +kernel))
  refine ⟨_, rfl, r_fld (sF8 _ _ ha8) T.c_Value T.n_Value_kind vF_kind ⟨rfl, _, rfl, ?_⟩⟩
  cases hl : decide (V.int (kindN (memb fs (txt "threads"))) = V.int 7) with
  | false => exact if_f rfl (nope _ _ rfl (not_arr gc (fun e => by rw [e] at hl; simp at hl)))
  | true =>
  obtain ⟨l, ec⟩ : ∃ l, memb fs (txt "threads") = .list l := by
    cases hm : memb fs (txt "threads") with
    | list l => exact ⟨l, rfl⟩
    | bool b => rw [hm] at hl; cases b <;> simp [kindN] at hl
    | _ => rw [hm] at hl; simp [kindN] at hl
  have hrF : VAt K F (.list l) (.ref a8) := by
    rcases hrv with h | ⟨h1, h2⟩
    · rw [ec] at h
      exact h
    · rw [ec] at h1
      cases h1
  rw [ec] at q nope gc
  obtain ⟨p, xs, ⟨a', dx', e, ha'⟩, hp, hxs⟩ := hrF
  cases e
  have gl : goodL l := goodL_of (by simpa [RWire.noBig] using gc.1) (by simpa [RWire.noOctets] using gc.2.1) (by simpa [RWire.noWide] using gc.2.2)
  have tk : Rust.taken (.list l) = .arr (l.map Rust.taken) := by rw [Rust.taken, takenAll_map]
  have hA' := B8.same _ _ (sF _ _ ha')
  have hP := B8.same _ _ (sF _ _ hp)
  have bd : ¬(1 ≤ l.length ∧ l.length ≤ 4) → R7285d.Spec.arrayAt (R7285d.Spec.units "description.threads") 1 4 "expected an array of 1 to 4 elements" (Rust.taken (.list l)) = R7285d.Spec.bad (R7285d.Spec.units "description.threads") "expected an array of 1 to 4 elements" := fun n => by
    rw [tk]
    show (if 1 ≤ (l.map Rust.taken).length ∧ (l.map Rust.taken).length ≤ 4 then _ else _) = _
    rw [if_neg (by rw [List.length_map]; exact n)]
  refine if_t rfl ⟨_, rfl, r_fld hA' T.c_Value T.n_Value_held vF_held ⟨p, _, rfl, .inl (SqL.of hP), _, _, rfl, rfl, _, rfl, ?_⟩⟩
  rw [hxs.len]
  by_cases c1 : 1 ≤ l.length
  rotate_left
  · exact if_f (decide_eq_false (by omega)) (nope _ _ rfl (bd fun z => c1 z.1))
  refine if_t (decide_eq_true (by omega)) ⟨_, rfl, r_fld hA' T.c_Value T.n_Value_held vF_held ⟨p, _, rfl, .inl (SqL.of hP), _, _, rfl, rfl, ?_⟩⟩
  rw [hxs.len]
  by_cases c4 : l.length ≤ 4
  rotate_left
  · dsimp only
    rw [decide_eq_false (by omega)]
    exact nope _ _ rfl (bd fun z => c4 z.2)
  dsimp only
  rw [decide_eq_true (by omega)]
  have ar : R7285d.Spec.arrayAt (R7285d.Spec.units "description.threads") 1 4 "expected an array of 1 to 4 elements" (Rust.taken (.list l)) = .ok (l.map Rust.taken) := by
    rw [tk]
    show (if 1 ≤ (l.map Rust.taken).length ∧ (l.map Rust.taken).length ≤ 4 then _ else _) = _
    rw [if_pos (by rw [List.length_map]; omega)]
  rw [ar] at q
  have q := (show Out (R7285d.Spec.andThen (R7285d.Spec.eachAt (R7285d.Spec.threadAt lo co shared.length (l.map Rust.taken).length) (R7285d.Spec.units "description.threads") 0 (l.map Rust.taken)) fun threads => (.ok ⟨lo, co, shared, threads⟩ : R7285d.Spec.Res Prog)) _ _ from q)
  rw [List.length_map] at q
  obtain ⟨res, hres⟩ : ∃ res, R7285d.Spec.eachAt (R7285d.Spec.threadAt lo co shared.length l.length) (R7285d.Spec.units "description.threads") 0 (l.map Rust.taken) = res := ⟨_, rfl⟩
  rw [hres] at q
  have er0 : res = R7285d.Spec.andThen (R7285d.Spec.eachAt (R7285d.Spec.threadAt lo co shared.length l.length) (R7285d.Spec.units "description.threads") 0 ((l.drop 0).map Rust.taken)) fun r => .ok (([] : List R7285d.Spec.ThreadD) ++ r) := by
    rw [List.drop_zero, hres]
    cases res <;> rfl
  refine ⟨_, rfl, _, _, _, rfl, true, _, _, rfl, rfl, rfl, by decide +kernel, by decide +kernel, by decide +kernel, by decide +kernel, fun _ => ?_, (fun z => by cases z)⟩
  refine ⟨_, rfl, r_fld hA' T.c_Value T.n_Value_held vF_held ⟨p, _, rfl, SqL.of hP, ?_⟩⟩
  refine for_it walk_enum (fun i σ H9 => ∃ (ds : List R7285d.Spec.ThreadD) (crs : List Addr), ds.length = i ∧ PB K H H9 L (PVal.mk lo co (shared.map fun d : R7285d.Spec.SharedD => d.value) (shared.map fun d : R7285d.Spec.SharedD => d.guard) (ds.map fun d : R7285d.Spec.ThreadD => d.weight) (ds.map fun d : R7285d.Spec.ThreadD => d.started) crs) ∧ All2 (fun cr (d : R7285d.Spec.ThreadD) => CodeAt (off H (bodyP L H9)) cr d.code) crs ds ∧
      res = R7285d.Spec.andThen (R7285d.Spec.eachAt (R7285d.Spec.threadAt lo co shared.length l.length) (R7285d.Spec.units "description.threads") i ((l.drop i).map Rust.taken)) (fun r => .ok (ds ++ r)) ∧ (∀ d ∈ ds, ThGood lo co shared.length l.length d) ∧
      ∃ o2 o4 o5 o6, σ = [some (.ref a), some (.ref L.pr), o2, some (.ref a8), o4, o5, o6])
    ⟨[], [], rfl, B8, All2.nil, er0, (fun x hx => by cases hx), _, _, _, _, rfl⟩ (fun i σ H9 _ ⟨ds, crs, _, B9, _⟩ => SqL.of (B9.same _ _ (sF _ _ hp))) ?_ ?_
  · rintro i t σ H9 H10 hi ⟨ds, crs, lds, B9, cds, er, tg, o2, o4, o5, o6, rfl⟩ ⟨Tt, x0, y0, rfl, nT, rfl, g1, g2⟩
    cases g1
    have g2' : xs[i]? = some y0 := g2
    obtain ⟨u, gu, hu⟩ := hxs.get g2'
    have ggu := gl u (List.mem_of_getElem? gu)
    have hi' : i < l.length := (List.getElem?_eq_some_iff.mp gu).1
    have sT := same_new (o := .tup [.int (i : Nat), y0]) nT
    have B10 := B9.up sT
    have dr : l.drop i = u :: l.drop (i + 1) := by
      rw [List.drop_eq_getElem_cons hi']
      have : l[i] = u := (List.getElem?_eq_some_iff.mp gu).2
      rw [this]
    rw [dr, List.map_cons] at er
    obtain ⟨bad, good⟩ := each_step er
    have i40 : i ≤ 40 := by omega
    obtain ⟨y1, y2, _⟩ := decS_ok i40
    have z7 : (PySem.Str.ofString "description.threads[").cps.size = 20 := by decide +kernel
    have z1 : (PySem.Str.ofString "]").cps.size = 1 := by decide +kernel
    have lc := cds.len
    refine ⟨Tt, _, rfl, SqT.of upd_same, rfl, _, _, rfl, _, _, rfl, rfl, ?_⟩
    refine ⟨_, rfl, _, rfl, _, rfl, _, rfl, small_log i40, _, _, rfl, rfl, str_line (by
      show _ + (decS i).cps.size ≤ _
      rw [z7]
      omega), _, _, rfl, rfl, str_line (by
      show (PySem.Str.ofString "description.threads[" ++ decS i).cps.size + _ ≤ _
      rw [app_size, z7, z1]
      omega), _, rfl, r_fld (B10.same _ _ (sF _ _ ha')) T.c_Value T.n_Value_held vF_held ⟨p, _, rfl, .inl (SqL.of (B10.same _ _ (sF _ _ hp))), _, _, _, _, rfl, F, u, H, L, _, PySem.Str.ofString "description.threads[" ++ decS i ++ PySem.Str.ofString "]", R7285d.Spec.item (R7285d.Spec.units "description.threads") i, l.length, rfl, hu, ggu, sF, rfl, item_txt (by decide +kernel) i40, ?_,
        byteS_app (byteS_app (by decide +kernel) y2) (by decide +kernel), by rw [hxs.len], B10, ?_, ?_, ?_, ?_⟩⟩
    · rw [app_size, app_size, z7, z1]
      omega
    · show (ds.map _).length ≤ 100
      rw [List.length_map]
      omega
    · show (ds.map _).length ≤ 100
      rw [List.length_map]
      omega
    · show crs.length ≤ 100
      omega
    · have ecv : (shared.map fun d : R7285d.Spec.SharedD => d.value).length = shared.length := List.length_map ..
      refine out_by (fun d ht => ?_) (fun e ht => ?_)
      · intro H11 cr tgd B11 b11 cd
        have ht2 : R7285d.Spec.threadAt lo co (shared.map fun d : R7285d.Spec.SharedD => d.value).length l.length (R7285d.Spec.item (R7285d.Spec.units "description.threads") i) (Rust.taken u) = .ok d := ht
        have tg2 : ThGood lo co (shared.map fun d : R7285d.Spec.SharedD => d.value).length l.length d := tgd
        rw [ecv] at ht2 tg2
        refine ⟨ds ++ [d], crs ++ [cr], by simp [lds], ?_, All2.append (cds.mono fun c d k => k.up (off_same ((bodyP_same sT).trans b11))) (All2.one cd), good d ht2, fun x hx => ?_, _, _, _, _, rfl⟩
        · rw [List.map_append, List.map_append]
          exact B11
        · rcases List.mem_append.mp hx with h | h
          · exact tg x h
          · rw [List.mem_singleton.mp h]
            exact tg2
      · have ht2 : R7285d.Spec.threadAt lo co (shared.map fun d : R7285d.Spec.SharedD => d.value).length l.length (R7285d.Spec.item (R7285d.Spec.units "description.threads") i) (Rust.taken u) = .error e := ht
        rw [ecv] at ht2
        have e2 := bad e ht2
        rw [e2] at q
        exact q
  · rintro σ H9 ⟨ds, crs, lds, B9, cds, er, tg, o2, o4, o5, o6, rfl⟩
    rw [hxs.len] at lds
    rw [hxs.len, List.drop_length] at er
    have er : res = .ok (ds ++ []) := er
    rw [er, List.append_nil] at q
    have fit : Fit ⟨lo, co, shared, ds⟩ := {
      locks := ⟨l1, l4⟩
      conds := c4'
      shared := sh6
      threads := by show 1 ≤ ds.length ∧ ds.length ≤ 4; omega
      guards := fun v d h => gds d (List.mem_of_getElem? h)
      weights := fun t d h => ⟨(tg d (List.mem_of_getElem? h)).1, (tg d (List.mem_of_getElem? h)).2.1⟩
      codes := fun t d h => (tg d (List.mem_of_getElem? h)).2.2.1
      ins := fun t d j i h hi => by
        have g := (tg d (List.mem_of_getElem? h)).2.2.2 i (List.mem_of_getElem? hi)
        rw [← lds] at g
        cases i <;> exact g }
    refine ⟨_, rfl, q H9 L.pr crs B9.same B9.npr fit ?_⟩
    refine ⟨⟨L.dx, L.c, L.g, L.w, L.s, L.k, ?_, ?_, ?_, ?_, ?_, ?_⟩, cds.len, fun t d cr h1 h2 => ?_⟩
    · rw [off_none B9.npr]; exact B9.ins
    · rw [off_none B9.nc, B9.hc, List.map_map]; rfl
    · rw [off_none B9.ng, B9.hg, List.map_map]; rfl
    · rw [off_none B9.nw, B9.hw, List.map_map]; rfl
    · rw [off_none B9.ns, B9.hs, List.map_map]; rfl
    · rw [off_none B9.nk]; exact B9.hk
    · obtain ⟨as, e1, e2⟩ := cds.get h2 h1
      have sb : Same (off H (bodyP L H9)) (off H H9) := off_same fun b o h => by
        unfold bodyP at h
        split at h
        · cases h
        · exact h
      exact ⟨as, sb _ _ e1, e2.len, fun j i a hj ha => (e2.get ha hj).up sb⟩
end
end CT


namespace CT
open PySem PySem.Spec PyProof.Rows L2
theorem pe_cal0 {X : Cx} {j k : Nat} {x : PySem.Str} {sp : Sp} {p pos : Pos} (c : Cal CX0 X.prog X.w X.K X.mg X.base k x sp) (hr : Room j X.A) (hk : k ≤ j) (hg : Gl X x) (hdb : (x == ("__debug__" : PySem.Str)) = false := by decide) : PE X (.Call (.Name x p) [] [] pos) (tCall sp [] E0 tNil) := by
  obtain ⟨fd, ps, F, hm, hkp, hb⟩ := c.ex
  exact pe_call0 F (hr.mono hk) hg hm hkp hb .nil (pass0 (X := X)) hdb
end CT

namespace CT
open PySem PySem.Spec PyProof.Rows L2
section
variable {P : Program} {w : World} {K : PySem.W.Frag} {mg : PySem.Str → Option Value} {base : Heap}
def optR : Option Nat → RWire.Value
  | none => .null
  | some n => .int (n : Int)
abbrev n_optional : List PySem.Str := ["number"]
theorem sc_optional : FnScope n_optional ["number"] d_optional.scope := ⟨rfl, rfl, rfl, by decide +kernel, rfl, by decide +kernel, by decide +kernel⟩
theorem c_optional (T : Tx w K mg) : Cal (CX0) P w K mg base 4 "optional" (sp1 fun x H Q _ => ∃ o, x = optV o ∧ spMk K H (optR o) Q) := by
  refine cal_mk T.fd_optional T.g_optional sc_optional (fun _ _ _ _ _ _ us hl => match us, hl with | [_], _ => rfl) (fun _ _ _ _ h => sp1_len h) (fun f cdv A outer s H vs Q E hr h => ?_)
  obtain ⟨_, rfl, o, rfl, q⟩ := h
  refine ⟨_, PSs.nox ((pss_one (ps_ret (pe_ifExp (pt_cmpR op_isN (pv 0) pe_non (nomark _)) (pe_cal0 (c_null T) hr (by decide) rfl) (pe_cal (c_integer T) hr (by decide) rfl passC (pa_cons (pv 0) pa_nil)))))), ?_⟩
  refine ⟨_, rfl, rfl, _, rfl, ?_⟩
  rw [optV_non]
  cases o with
  | none => exact if_t rfl ⟨rfl, q⟩
  | some n => exact if_f rfl ⟨_, rfl, _, rfl, _, rfl, q⟩
end
end CT


namespace CT
open PySem PySem.Spec PyProof.Rows L2
def intsR (ns : List Int) : RWire.Value := .list (ns.map RWire.Value.int)
section
variable {P : Program} {w : World} {K : PySem.W.Frag} {mg : PySem.Str → Option Value} {base : Heap}
abbrev n_integers : List PySem.Str := ["numbers", "number"]
theorem sc_integers : FnScope n_integers ["numbers"] d_integers.scope := ⟨rfl, rfl, rfl, by decide +kernel, rfl, by decide +kernel, by decide +kernel⟩
theorem c_integers (T : Tx w K mg) : Cal (CX0) P w K mg base 4 "integers" (sp1 fun x H Q _ => ∃ p ns, x = .ref p ∧ H p = some (.lst (ns.map V.int)) ∧ ns.length ≤ 1900000 ∧ spMk K H (intsR ns) Q) := by
  refine cal_mk T.fd_integers T.g_integers sc_integers (fun _ _ _ _ _ _ us hl => match us, hl with | [_], _ => rfl) (fun _ _ _ _ h => sp1_len h) (fun f cdv A outer s H vs Q E hr h => ?_)
  obtain ⟨_, rfl, p, ns, rfl, hp, small, q⟩ := h
  refine ⟨_, PSs.nox ((pss_one (ps_ret (pe_cal (c_list_of T) hr (by decide) rfl passC (pa_cons (pe_lc (own := [("number", 1)]) rfl sc_integers.nd (pi_list (pv 0)) (blkOk_by (N := n_integers) (sc := d_integers.scope) (by decide +kernel)) (fun _ _ _ _ _ => (pg_name (i := 1) sc_integers.nd rfl (Or.inl rfl))) (fun _ _ _ _ _ => pts_nil) (fun _ _ _ _ _ => (pe_cal (c_integer T) hr (by decide) rfl passC (pa_cons (pv 1) pa_nil)))) pa_nil))))), ?_⟩
  refine ⟨_, rfl, p, rfl, ⟨_, SqL.of hp⟩, fun D nD => ?_⟩
  refine lc_list (fun i H1 => Same H H1 ∧ ∃ xs, H1 D = some (.lst xs) ∧ xs.length = i ∧ ∀ B, Same B H → VMany K (offD B D H1) ((ns.take i).map RWire.Value.int) xs) ⟨same_new nD, [], upd_same, rfl, fun B sB => rfl⟩ (fun i H1 _ h => SqL.of (h.1 _ _ hp)) ?_ ?_
  · rintro i v H1 hv ⟨s1, xs, hD, lx, hm⟩
    have hi : i < ns.length := by
      have := (List.getElem?_eq_some_iff.mp hv).1
      rw [List.length_map] at this
      exact this
    obtain ⟨n, hn⟩ := get_lt hi
    rw [mapInt hn] at hv
    cases hv
    refine ⟨rfl, _, rfl, _, rfl, n, rfl, fun H2 x s2 hx => ⟨xs, s2 _ _ hD, lt_line (by omega), same_at nD (s1.trans s2), xs ++ [x], upd_same, by simp [lx], fun B sB => ?_⟩⟩
    rw [offD_upd, take_succ_get hn, List.map_append]
    have h1 := hx _ (with_same sB s1 hD)
    rw [off_with] at h1
    exact VMany.snoc h1 (VMany.up (offD_same s2) _ _ (hm B sB))
  · rintro H1 ⟨s1, xs, hD, lx, hm⟩
    rw [List.length_map, take_len] at hm
    refine ⟨_, rfl, D, xs, rfl, hD, fun H2 y s2 hy => q H2 y (s1.trans s2) fun B sB => ?_⟩
    have h1 := hy (withD B D (.lst xs)) (ns.map RWire.Value.int) (with_same sB s1 hD) (by
      rw [off_with]
      exact hm B sB)
    rw [off_with] at h1
    exact VAt.up offD_off _ _ h1
end
end CT


namespace CT
open PySem PySem.Spec PyProof.Rows L2
def modeS : R7285d.Spec.Mode → PySem.Str
  | .idle => "idle"
  | .running => "running"
  | .waiting => "waiting"
  | .ended => "ended"
def threadR (x : Thr) : RWire.Value := .record (([("mode" : PySem.Str), "place", "registers", "printed", "needs", "clock", "events"].map txt).zip
  [.text (txt (modeS x.mode)), .int (x.pc : Int), intsR x.regs, intsR x.out, optR x.need, .int (x.clock : Int), .int (x.count : Int)])
def modesV : List V := [.str "idle", .str "running", .str "waiting", .str "ended"]
section
variable {P : Program} {w : World} {K : PySem.W.Frag} {mg : PySem.Str → Option Value} {base : Heap}
theorem Tx.modes (T : Tx w K mg) (H : Hp) : SqT K H (He.ga K "MODES") modesV := by
  have h := T.s.ex
  unfold exB at h
  have h := (Bool.and_eq_true_iff.mp (Bool.and_eq_true_iff.mp (Bool.and_eq_true_iff.mp h).2).2).1
  exact He.tupB_ok h H
theorem mode_at (md : R7285d.Spec.Mode) : atI modesV (modeN md) = some (.str (modeS md)) := by cases md <;> rfl
theorem mode_ok (md : R7285d.Spec.Mode) : (modeS md).cps.size ≤ 1000 ∧ byteS (modeS md) := by cases md <;> decide +kernel
theorem names_ok : ∀ z ∈ [("mode" : PySem.Str), "place", "registers", "printed", "needs", "clock", "events", "holder", "order", "threads", "shared", "locks", "queues", "event", "thread", "variable", "end", "length", "race", "value", "done"], z.cps.size ≤ 1000 ∧ byteS z := by decide +kernel
def spThreadValue (K : PySem.W.Frag) : Sp := sp1 fun v H Q _ => ∃ a cr wt x dx rg pr, v = .ref a ∧ ThAt K H a cr wt x dx rg pr ∧ x.regs.length ≤ 1900000 ∧ x.out.length ≤ 1900000 ∧ spMk K H (threadR x) Q
abbrev n_thread_value : List PySem.Str := ["thread", "head", "middle", "tail"]
theorem sc_thread_value : FnScope n_thread_value ["thread"] d_thread_value.scope := ⟨rfl, rfl, rfl, by decide +kernel, rfl, by decide +kernel, by decide +kernel⟩
theorem c_thread_value (T : Tx w K mg) : Cal (CX0) P w K mg base 5 "thread_value" (spThreadValue K) := by
  refine cal_mk T.fd_thread_value T.g_thread_value sc_thread_value (fun _ _ _ _ _ _ us hl => match us, hl with | [_], _ => rfl) (fun _ _ _ _ h => sp1_len h) (fun f cdv A outer s H vs Q E hr h => ?_)
  obtain ⟨_, rfl, a, cr, wt, x, dx, rg, pr, rfl, A, lr, lo, q⟩ := h
  refine ⟨_, PSs.nox ((pss_cons (ps_set (i := 1) sc_thread_value.nd rfl (Or.inl rfl) (pe_lst (pa_cons (pe_tup (pa_cons pe_str (pa_cons (pe_cal (c_text_of T) hr (by decide) rfl passC (pa_cons (pe_ix ix_tup (pe_gr T.g_MODES rfl) (pe_fld (pv 0) rfl) (fun _ _ => rfl)) pa_nil)) pa_nil))) (pa_cons (pe_tup (pa_cons pe_str (pa_cons (pe_cal (c_integer T) hr (by decide) rfl passC (pa_cons (pe_fld (pv 0) rfl) pa_nil)) pa_nil))) pa_nil))))
      (pss_cons (ps_set (i := 2) sc_thread_value.nd rfl (Or.inl rfl) (pe_lst (pa_cons (pe_tup (pa_cons pe_str (pa_cons (pe_cal (c_integers T) hr (by decide) rfl passC (pa_cons (pe_fld (pv 0) rfl) pa_nil)) pa_nil))) (pa_cons (pe_tup (pa_cons pe_str (pa_cons (pe_cal (c_integers T) hr (by decide) rfl passC (pa_cons (pe_fld (pv 0) rfl) pa_nil)) pa_nil))) pa_nil))))
      (pss_cons (ps_set (i := 3) sc_thread_value.nd rfl (Or.inl rfl) (pe_lst (pa_cons (pe_tup (pa_cons pe_str (pa_cons (pe_cal (c_optional T) hr (by decide) rfl passC (pa_cons (pe_fld (pv 0) rfl) pa_nil)) pa_nil))) (pa_cons (pe_tup (pa_cons pe_str (pa_cons (pe_cal (c_integer T) hr (by decide) rfl passC (pa_cons (pe_fld (pv 0) rfl) pa_nil)) pa_nil))) (pa_cons (pe_tup (pa_cons pe_str (pa_cons (pe_cal (c_integer T) hr (by decide) rfl passC (pa_cons (pe_fld (pv 0) rfl) pa_nil)) pa_nil))) pa_nil)))))
      (pss_one (ps_ret (pe_cal (c_record_of T) hr (by decide) rfl passC (pa_cons (pe_op op_cat (pe_op op_cat (pv 1) (pv 2)) (pv 3)) pa_nil)))))))), ?_⟩
  obtain ⟨m1, m2⟩ := mode_ok x.mode
  -- head
  refine ⟨_, rfl, r_fld A.ins T.c_Thread T.n_Thread_mode tF_mode ⟨He.ga K "MODES", modesV, modeN x.mode, _, rfl, rfl, T.modes H, mode_at x.mode, _, rfl, modeS x.mode, rfl, m1, m2, fun H1 x1 s1 v1 => ⟨lineOf (by show 2 ≤ 1000; decide), fun t1 n1 => ?_⟩⟩⟩
  have p1 := s1.trans (same_new (o := .tup [.str "mode", x1]) n1)
  refine ⟨_, rfl, r_fld (p1 _ _ A.ins) T.c_Thread T.n_Thread_place tF_place ⟨_, rfl, _, rfl, fun H2 x2 s2 v2 => ⟨lineOf (by show 2 ≤ 1000; decide), fun t2 n2 => ⟨lineOf (by show 2 ≤ 1000; decide), fun la nla => ?_⟩⟩⟩⟩
  have q2 := same_new (o := .tup [.str "place", x2]) n2
  have qa := same_new (o := .lst [.ref t1, .ref t2]) nla
  have p2 := p1.trans (s2.trans (q2.trans qa))
  -- middle
  refine ⟨_, rfl, r_fld (p2 _ _ A.ins) T.c_Thread T.n_Thread_registers tF_registers ⟨_, rfl, rg, x.regs, rfl, p2 _ _ A.regs, lr, fun H3 x3 s3 v3 => ⟨lineOf (by show 2 ≤ 1000; decide), fun t3 n3 => ?_⟩⟩⟩
  have q3 := same_new (o := .tup [.str "registers", x3]) n3
  have p3 := p2.trans (s3.trans q3)
  refine ⟨_, rfl, r_fld (p3 _ _ A.ins) T.c_Thread T.n_Thread_printed tF_printed ⟨_, rfl, pr, x.out, rfl, p3 _ _ A.out, lo, fun H4 x4 s4 v4 => ⟨lineOf (by show 2 ≤ 1000; decide), fun t4 n4 => ⟨lineOf (by show 2 ≤ 1000; decide), fun lb nlb => ?_⟩⟩⟩⟩
  have q4 := same_new (o := .tup [.str "printed", x4]) n4
  have qb := same_new (o := .lst [.ref t3, .ref t4]) nlb
  have p4 := p3.trans (s4.trans (q4.trans qb))
  -- tail
  refine ⟨_, rfl, r_fld (p4 _ _ A.ins) T.c_Thread T.n_Thread_wanted tF_wanted ⟨_, rfl, x.need, rfl, fun H5 x5 s5 v5 => ⟨lineOf (by show 2 ≤ 1000; decide), fun t5 n5 => ?_⟩⟩⟩
  have q5 := same_new (o := .tup [.str "needs", x5]) n5
  have p5 := p4.trans (s5.trans q5)
  refine ⟨_, rfl, r_fld (p5 _ _ A.ins) T.c_Thread T.n_Thread_clock tF_clock ⟨_, rfl, _, rfl, fun H6 x6 s6 v6 => ⟨lineOf (by show 2 ≤ 1000; decide), fun t6 n6 => ?_⟩⟩⟩
  have q6 := same_new (o := .tup [.str "clock", x6]) n6
  have p6 := p5.trans (s6.trans q6)
  refine ⟨_, rfl, r_fld (p6 _ _ A.ins) T.c_Thread T.n_Thread_events tF_events ⟨_, rfl, _, rfl, fun H7 x7 s7 v7 => ⟨lineOf (by show 2 ≤ 1000; decide), fun t7 n7 => ⟨lineOf (by show 3 ≤ 1000; decide), fun lc nlc => ?_⟩⟩⟩⟩
  have q7 := same_new (o := .tup [.str "events", x7]) n7
  have qc := same_new (o := .lst [.ref t5, .ref t6, .ref t7]) nlc
  -- what stands at the end
  have r6 := s7.trans (q7.trans qc)
  have r5 := s6.trans (q6.trans r6)
  have r4 := s5.trans (q5.trans r5)
  have r3 := s4.trans (q4.trans (qb.trans r4))
  have r2 := s3.trans (q3.trans r3)
  have r1 := s2.trans (q2.trans (qa.trans r2))
  have hla := r2 la (.lst [.ref t1, .ref t2]) upd_same
  have hlb := r4 lb (.lst [.ref t3, .ref t4]) upd_same
  generalize hE : upd (upd H7 t7 (.tup [.str "events", x7])) lc (.lst [.ref t5, .ref t6, .ref t7]) = HE at *
  have hlc : HE lc = some (.lst [.ref t5, .ref t6, .ref t7]) := by rw [← hE]; exact upd_same
  have e1 := r1 t1 (.tup [.str "mode", x1]) upd_same
  have e2 := (qa.trans r2) t2 (.tup [.str "place", x2]) upd_same
  have e3 := r3 t3 (.tup [.str "registers", x3]) upd_same
  have e4 := (qb.trans r4) t4 (.tup [.str "printed", x4]) upd_same
  have e5 := r5 t5 (.tup [.str "needs", x5]) upd_same
  have e6 := r6 t6 (.tup [.str "clock", x6]) upd_same
  have e7 := qc t7 (.tup [.str "events", x7]) upd_same
  refine ⟨_, rfl, _, rfl, la, lb, _, _, rfl, rfl, hla, hlb, lineOf (by show 4 ≤ 1000; decide), fun ld nld => ?_⟩
  have qd := same_new (o := .lst ([.ref t1, .ref t2] ++ [.ref t3, .ref t4])) nld
  refine ⟨_, rfl, ld, lc, _, _, rfl, rfl, upd_same, qd _ _ hlc, lineOf (by show 7 ≤ 1000; decide), fun le nle => ?_⟩
  have qe := same_new (o := .lst ([.ref t1, .ref t2] ++ [.ref t3, .ref t4] ++ [.ref t5, .ref t6, .ref t7])) nle
  have z := qd.trans qe
  refine ⟨_, rfl, le, [t1, t2, t3, t4, t5, t6, t7], [("mode", x1), ("place", x2), ("registers", x3), ("printed", x4), ("needs", x5), ("clock", x6), ("events", x7)], rfl, upd_same,
    .cons (z _ _ e1) (.cons (z _ _ e2) (.cons (z _ _ e3) (.cons (z _ _ e4) (.cons (z _ _ e5) (.cons (z _ _ e6) (.cons (z _ _ e7) .nil)))))), by show 7 ≤ 500; decide, fun e he => ?_, fun H9 y s9 hy => ?_⟩
  · simp only [List.mem_cons, List.not_mem_nil, or_false] at he
    rcases he with rfl | rfl | rfl | rfl | rfl | rfl | rfl <;> exact names_ok _ (by simp)
  · have pE : Same H HE := p1.trans r1
    refine q H9 y (pE.trans (z.trans s9)) fun B sB => ?_
    refine hy B [.text (txt (modeS x.mode)), .int (x.pc : Int), intsR x.regs, intsR x.out, optR x.need, .int (x.clock : Int), .int (x.count : Int)] (sB.trans (pE.trans z)) ?_
    refine ⟨x1, _, rfl, VAt.up (off_same ((same_new n1).trans (r1.trans z))) _ _ (v1 B sB), ?_⟩
    refine ⟨x2, _, rfl, VAt.up (off_same (q2.trans (qa.trans (r2.trans z)))) _ _ (v2 B (sB.trans p1)), ?_⟩
    refine ⟨x3, _, rfl, VAt.up (off_same (q3.trans (r3.trans z))) _ _ (v3 B (sB.trans p2)), ?_⟩
    refine ⟨x4, _, rfl, VAt.up (off_same (q4.trans (qb.trans (r4.trans z)))) _ _ (v4 B (sB.trans p3)), ?_⟩
    refine ⟨x5, _, rfl, VAt.up (off_same (q5.trans (r5.trans z))) _ _ (v5 B (sB.trans p4)), ?_⟩
    refine ⟨x6, _, rfl, VAt.up (off_same (q6.trans (r6.trans z))) _ _ (v6 B (sB.trans p5)), ?_⟩
    exact ⟨x7, _, rfl, VAt.up (off_same (q7.trans (qc.trans z))) _ _ (v7 B (sB.trans p6)), rfl⟩
end
end CT


namespace CT
open PySem PySem.Spec PyProof.Rows L2
def natsR (ns : List Nat) : RWire.Value := intsR (ns.map fun n : Nat => (n : Int))
def lockR (k : Lck) : RWire.Value := .record (([("holder" : PySem.Str), "order"].map txt).zip [optR k.holder, natsR k.order])
def membersR (m : Mach) : List RWire.Value := [.list (m.threads.map threadR), intsR m.shared, .list (m.locks.map lockR), .list (m.queues.map natsR)]
section
variable {K : PySem.W.Frag}
theorem many_turn {B H H1 H2 : Hp} {D : Addr} {xs : List V} {x : V} {vs : List RWire.Value} {v : RWire.Value} {o : HO} (sB : Same B H) (s1 : Same H H1) (s2 : Same H1 H2) (hD : H1 D = some (.lst xs)) (hm : VMany K (offD B D H1) vs xs) (hx : ∀ B, Same B H1 → VAt K (off B H2) v x) : VMany K (offD B D (upd H2 D o)) (vs ++ [v]) (xs ++ [x]) := by
  rw [offD_upd]
  have h1 := hx _ (with_same sB s1 hD)
  rw [off_with] at h1
  exact VMany.snoc h1 (VMany.up (offD_same s2) _ _ hm)
theorem many_end {B H H1 H2 : Hp} {D : Addr} {xs : List V} {y : V} {vs : List RWire.Value} (sB : Same B H) (s1 : Same H H1) (hD : H1 D = some (.lst xs)) (hm : VMany K (offD B D H1) vs xs) (hy : ∀ B vs, Same B H1 → VMany K (off B H1) vs xs → VAt K (off B H2) (.list vs) y) : VAt K (off B H2) (.list vs) y := by
  have h1 := hy (withD B D (.lst xs)) vs (with_same sB s1 hD) (by
    rw [off_with]
    exact hm)
  rw [off_with] at h1
  exact VAt.up offD_off _ _ h1
/-- the octets of a list that is being made -/
theorem natV_ints (ns : List Nat) : ns.map natV = (ns.map fun n : Nat => (n : Int)).map V.int := by
  rw [List.map_map]
  rfl
end
section
variable {P : Program} {w : World} {K : PySem.W.Frag} {mg : PySem.Str → Option Value} {base : Heap}
def spMembers (K : PySem.W.Frag) : Sp := sp1 fun u H Q _ => ∃ S L p m n, u = .ref L.a ∧ MW K H S L p m n ∧ Fit p ∧ Wf p m n ∧ n ≤ 1900000 ∧
  ∀ H' a t1 t2 t3 t4 x1 x2 x3 x4, Same H H' → H' a = some (.lst [.ref t1, .ref t2, .ref t3, .ref t4]) → H' t1 = some (.tup [.str "threads", x1]) → H' t2 = some (.tup [.str "shared", x2]) → H' t3 = some (.tup [.str "locks", x3]) → H' t4 = some (.tup [.str "queues", x4]) →
    (∀ B, Same B H → VMany K (off B H') (membersR m) [x1, x2, x3, x4]) → Q (.ref a) H'
abbrev n_machine_members : List PySem.Str := ["machine", "threads", "locks", "lock", "head", "thread", "queue"]
theorem sc_machine_members : FnScope n_machine_members ["machine"] d_machine_members.scope := ⟨rfl, rfl, rfl, by decide +kernel, rfl, by decide +kernel, by decide +kernel⟩
theorem c_machine_members (T : Tx w K mg) : Cal (CX0) P w K mg base 6 "machine_members" (spMembers K) := by
  refine cal_mk T.fd_machine_members T.g_machine_members sc_machine_members (fun _ _ _ _ _ _ us hl => match us, hl with | [_], _ => rfl) (fun _ _ _ _ h => sp1_len h) (fun f cdv A outer s H vs Q E hr h => ?_)
  obtain ⟨_, rfl, S, L, p, m, n, rfl, W, fit, wf, small, q⟩ := h
  refine ⟨_, PSs.nox ((pss_cons (ps_set (i := 1) sc_machine_members.nd rfl (Or.inl rfl) (pe_cal (c_list_of T) hr (by decide) rfl passC (pa_cons (pe_lc (own := [("thread", 5)]) rfl sc_machine_members.nd (pi_list (pe_fld (pv 0) rfl)) (blkOk_by (N := n_machine_members) (sc := d_machine_members.scope) (by decide +kernel)) (fun _ _ _ _ _ => (pg_name (i := 5) sc_machine_members.nd rfl (Or.inl rfl))) (fun _ _ _ _ _ => pts_nil) (fun _ _ _ _ _ => (pe_cal (c_thread_value T) hr (by decide) rfl passC (pa_cons (pv 5) pa_nil)))) pa_nil)))
      (pss_cons (ps_set (i := 2) sc_machine_members.nd rfl (Or.inl rfl) (pe_lst pa_nil))
      (pss_cons (ps_for PassesOwn.never rfl (pi_list (pe_fld (pv 0) rfl)) (pg_name (i := 3) sc_machine_members.nd rfl (Or.inl rfl)) (pss_one (ps_expr (pe_bm PySem.F.plainAttrs_list PySem.F.slot_list_append PySem.F.type_list_append mt_append (pv 2) (pa_cons (pe_cal (c_record_of T) hr (by decide) rfl passC (pa_cons (pe_lst (pa_cons (pe_tup (pa_cons pe_str (pa_cons (pe_cal (c_optional T) hr (by decide) rfl passC (pa_cons (pe_fld (pv 3) rfl) pa_nil)) pa_nil))) (pa_cons (pe_tup (pa_cons pe_str (pa_cons (pe_cal (c_integers T) hr (by decide) rfl passC (pa_cons (pe_fld (pv 3) rfl) pa_nil)) pa_nil))) pa_nil))) pa_nil)) pa_nil)))))
      (pss_cons (ps_set (i := 4) sc_machine_members.nd rfl (Or.inl rfl) (pe_lst (pa_cons (pe_tup (pa_cons pe_str (pa_cons (pv 1) pa_nil))) (pa_cons (pe_tup (pa_cons pe_str (pa_cons (pe_cal (c_integers T) hr (by decide) rfl passC (pa_cons (pe_fld (pv 0) rfl) pa_nil)) pa_nil))) (pa_cons (pe_tup (pa_cons pe_str (pa_cons (pe_cal (c_list_of T) hr (by decide) rfl passC (pa_cons (pv 2) pa_nil)) pa_nil))) pa_nil)))))
      (pss_one (ps_ret (pe_op op_cat (pv 4) (pe_lst (pa_cons (pe_tup (pa_cons pe_str (pa_cons (pe_cal (c_list_of T) hr (by decide) rfl passC (pa_cons (pe_lc (own := [("queue", 6)]) rfl sc_machine_members.nd (pi_list (pe_fld (pv 0) rfl)) (blkOk_by (N := n_machine_members) (sc := d_machine_members.scope) (by decide +kernel)) (fun _ _ _ _ _ => (pg_name (i := 6) sc_machine_members.nd rfl (Or.inl rfl))) (fun _ _ _ _ _ => pts_nil) (fun _ _ _ _ _ => (pe_cal (c_integers T) hr (by decide) rfl passC (pa_cons (pv 6) pa_nil)))) pa_nil)) pa_nil))) pa_nil)))))))))), ?_⟩
  obtain ⟨dM, hM⟩ := W.mach
  have f1 := fit.locks
  have f2 := fit.conds
  have f3 := fit.threads
  have f4 := fit.shared
  have w1 := wf.threads
  have w2 := wf.locks
  have w3 := wf.queues
  have w4 := wf.shared
  -- the threads
  refine ⟨_, rfl, r_fld hM T.c_Machine T.n_Machine_threads mF_threads ⟨L.tl, rfl, ⟨_, SqL.of W.tl⟩, fun D nD => ?_⟩⟩
  refine lc_list (fun i H1 => Same H H1 ∧ ∃ xs, H1 D = some (.lst xs) ∧ xs.length = i ∧ ∀ B, Same B H → VMany K (offD B D H1) ((m.threads.take i).map threadR) xs) ⟨same_new nD, [], upd_same, rfl, fun B sB => rfl⟩ (fun i H1 _ h => SqL.of (h.1 _ _ W.tl)) ?_ ?_
  · rintro i v H1 hv ⟨s1, xs, hD, lx, hm⟩
    have hi : i < m.threads.length := by
      have := (List.getElem?_eq_some_iff.mp hv).1
      rw [List.length_map, W.at_.tlen] at this
      exact this
    obtain ⟨x, hx⟩ := get_lt hi
    obtain ⟨b, cr, d, dx, rg, pr, g1, g2, g3, TS, TH⟩ := W.thread hx
    rw [mapRef g1] at hv
    cases hv
    have ok := wf.th i d x g3 hx
    have ok1 := ok.regs
    have ok2 := ok.out
    refine ⟨rfl, _, rfl, _, rfl, b, cr, d.weight, x, dx, rg, pr, rfl, TH.up s1, by omega, by omega, fun H2 y s2 hy => ⟨xs, s2 _ _ hD, lt_line (by omega), same_at nD (s1.trans s2), xs ++ [y], upd_same, by simp [lx], fun B sB => ?_⟩⟩
    rw [take_succ_get hx, List.map_append]
    exact many_turn sB s1 s2 hD (hm B sB) hy
  rintro H1 ⟨s1, xs, hD, lx, hm⟩
  rw [List.length_map, W.at_.tlen, take_len] at hm
  refine ⟨_, rfl, D, xs, rfl, hD, fun H2 x1 s2 hy => ?_⟩
  have p2 := s1.trans s2
  have v1 : ∀ B, Same B H → VAt K (off B H2) (.list (m.threads.map threadR)) x1 := fun B sB => many_end sB s1 hD (hm B sB) hy
  clear hm hy hD
  -- the locks
  refine ⟨lineOf (by show 0 ≤ 1000; decide), fun E nE => ?_⟩
  have nE0 := p2.free nE
  have p3 := p2.trans (same_new (o := .lst []) nE)
  refine ⟨_, rfl, r_fld (p3 _ _ hM) T.c_Machine T.n_Machine_locks mF_locks ⟨L.ll, rfl, ⟨_, SqL.of (p3 _ _ W.ll)⟩, ?_⟩⟩
  refine for_list (fun i σ H3 => Same H2 H3 ∧ (∃ xs, H3 E = some (.lst xs) ∧ xs.length = i ∧ ∀ B, Same B H → VMany K (offD B E H3) ((m.locks.take i).map lockR) xs) ∧ ∃ o3 o5, σ = [some (.ref L.a), some x1, some (.ref E), o3, none, o5, none]) ⟨same_new nE, ⟨[], upd_same, rfl, fun B sB => rfl⟩, _, _, rfl⟩ (fun i σ H3 _ h => SqL.of (h.1 _ _ (p2 _ _ W.ll))) ?_ ?_
  · rintro i v σ H3 hv ⟨s3, ⟨ys, hE, ly, hmE⟩, o3, o5, rfl⟩
    have hi : i < m.locks.length := by
      have := (List.getElem?_eq_some_iff.mp hv).1
      rw [List.length_map, W.at_.llen] at this
      exact this
    obtain ⟨k, hk⟩ := get_lt hi
    obtain ⟨b, dx, od, fv, f, g1, LS, LH, LO⟩ := W.lock hk
    rw [mapRef g1] at hv
    cases hv
    have ord := wf.order i k hk
    have q3 := p2.trans s3
    rw [natV_ints] at LO
    refine ⟨_, rfl, .inl ⟨rfl, _, SqL.of hE⟩, ?_⟩
    refine ⟨_, rfl, r_fld (q3 _ _ LH) T.c_Lock T.n_Lock_holder lF_holder ⟨_, rfl, k.holder, rfl, fun H4 z1 s4 u1 => ⟨lineOf (by show 2 ≤ 1000; decide), fun t1 n1 => ?_⟩⟩⟩
    have c1 := same_new (o := .tup [.str "holder", z1]) n1
    have q4 := q3.trans (s4.trans c1)
    refine ⟨_, rfl, r_fld (q4 _ _ LH) T.c_Lock T.n_Lock_order lF_order ⟨_, rfl, od, _, rfl, q4 _ _ LO, by rw [List.length_map]; omega, fun H5 z2 s5 u2 => ⟨lineOf (by show 2 ≤ 1000; decide), fun t2 n2 => ⟨lineOf (by show 2 ≤ 1000; decide), fun la nla => ?_⟩⟩⟩⟩
    have c2 := same_new (o := .tup [.str "order", z2]) n2
    have c3 := same_new (o := .lst [.ref t1, .ref t2]) nla
    have e1 := (s5.trans (c2.trans c3)) t1 (.tup [.str "holder", z1]) upd_same
    have e2 := c3 t2 (.tup [.str "order", z2]) upd_same
    refine ⟨_, rfl, la, [t1, t2], [("holder", z1), ("order", z2)], rfl, upd_same, .cons e1 (.cons e2 .nil), by show 2 ≤ 500; decide, fun e he => ?_, fun H6 y s6 hy => ?_⟩
    · simp only [List.mem_cons, List.not_mem_nil, or_false] at he
      rcases he with rfl | rfl <;> exact names_ok _ (by simp)
    have r3 : Same H3 H6 := s4.trans (c1.trans (s5.trans (c2.trans (c3.trans s6))))
    have hy' : ∀ B, Same B H3 → VAt K (off B H6) (lockR k) y := fun B sB => by
      refine hy B [optR k.holder, natsR k.order] (sB.trans (s4.trans (c1.trans (s5.trans (c2.trans c3))))) ?_
      refine ⟨z1, _, rfl, VAt.up (off_same (c1.trans (s5.trans (c2.trans c3)))) _ _ (u1 B sB), ?_⟩
      exact ⟨z2, _, rfl, VAt.up (off_same (c2.trans c3)) _ _ (u2 B (sB.trans (s4.trans c1))), rfl⟩
    refine ⟨E, _, _, rfl, rfl, r3 _ _ hE, lt_line (by omega), same_at nE (s3.trans r3), ⟨ys ++ [y], upd_same, by simp [ly], fun B sB => ?_⟩, _, _, rfl⟩
    rw [take_succ_get hk, List.map_append]
    exact many_turn sB q3 r3 hE (hmE B sB) hy'
  rintro σ H3 ⟨s3, ⟨ys, hE, ly, hmE⟩, o3, o5, rfl⟩
  rw [List.length_map, W.at_.llen, take_len] at hmE
  have q3 := p2.trans s3
  -- head
  refine ⟨_, rfl, lineOf (by show 2 ≤ 1000; decide), fun t1 n1 => ?_⟩
  have c1 := same_new (o := .tup [.str "threads", x1]) n1
  have q4 := q3.trans c1
  refine ⟨_, rfl, r_fld (q4 _ _ hM) T.c_Machine T.n_Machine_contents mF_contents ⟨_, rfl, L.ct, m.shared, rfl, q4 _ _ W.ct, by omega, fun H4 x2 s4 v2 => ⟨lineOf (by show 2 ≤ 1000; decide), fun t2 n2 => ?_⟩⟩⟩
  have c2 := same_new (o := .tup [.str "shared", x2]) n2
  have r34 := c1.trans (s4.trans c2)
  refine ⟨_, rfl, _, rfl, E, ys, rfl, r34 _ _ hE, fun H5 x3 s5 hy => ⟨lineOf (by show 2 ≤ 1000; decide), fun t3 n3 => ⟨lineOf (by show 3 ≤ 1000; decide), fun la nla => ?_⟩⟩⟩
  have c3 := same_new (o := .tup [.str "locks", x3]) n3
  have c4 := same_new (o := .lst [.ref t1, .ref t2, .ref t3]) nla
  have v3 : ∀ B, Same B H → VAt K (off B H5) (.list (m.locks.map lockR)) x3 := fun B sB => by
    have h1 := hy (withD B E (.lst ys)) (m.locks.map lockR) ((with_same sB q3 hE).trans r34) (by
      rw [off_with]
      exact VMany.up (offD_same r34) _ _ (hmE B sB))
    rw [off_with] at h1
    exact VAt.up offD_off _ _ h1
  have r5 := c3.trans c4
  have r4 := s5.trans r5
  have p5 : Same H (upd (upd H5 t3 (.tup [.str "locks", x3])) la (.lst [.ref t1, .ref t2, .ref t3])) := q3.trans (r34.trans r4)
  -- the queues
  refine ⟨_, rfl, _, rfl, r_fld (p5 _ _ hM) T.c_Machine T.n_Machine_queues mF_queues ⟨L.ql, rfl, ⟨_, SqL.of (p5 _ _ W.ql)⟩, fun G nG => ?_⟩⟩
  have nG0 := p5.free nG
  generalize hB : upd (upd H5 t3 (.tup [.str "locks", x3])) la (.lst [.ref t1, .ref t2, .ref t3]) = HB at *
  refine lc_list (fun i H6 => Same HB H6 ∧ ∃ xs, H6 G = some (.lst xs) ∧ xs.length = i ∧ ∀ B, Same B H → VMany K (offD B G H6) ((m.queues.take i).map natsR) xs) ⟨same_new nG, [], upd_same, rfl, fun B sB => rfl⟩ (fun i H6 _ h => SqL.of (h.1 _ _ (p5 _ _ W.ql))) ?_ ?_
  · rintro i v H6 hv ⟨s6, zs, hG, lz, hmG⟩
    have hi : i < m.queues.length := by
      have := (List.getElem?_eq_some_iff.mp hv).1
      rw [List.length_map, W.at_.qlen] at this
      exact this
    obtain ⟨k, hk⟩ := get_lt hi
    obtain ⟨b, g1, QS, QH⟩ := W.queue hk
    rw [mapRef g1] at hv
    cases hv
    have ql := wf.qlen i k hk
    rw [natV_ints] at QH
    refine ⟨rfl, _, rfl, _, rfl, b, _, rfl, s6 _ _ (p5 _ _ QH), by rw [List.length_map]; omega, fun H7 y s7 hy => ⟨zs, s7 _ _ hG, lt_line (by omega), same_at nG (s6.trans s7), zs ++ [y], upd_same, by simp [lz], fun B sB => ?_⟩⟩
    rw [take_succ_get hk, List.map_append]
    exact many_turn sB (p5.trans s6) s7 hG (hmG B sB) hy
  rintro H6 ⟨s6, zs, hG, lz, hmG⟩
  rw [List.length_map, W.at_.qlen, take_len] at hmG
  have p6 := p5.trans s6
  refine ⟨_, rfl, G, zs, rfl, hG, fun H7 x4 s7 hy => ⟨lineOf (by show 2 ≤ 1000; decide), fun t4 n4 => ⟨lineOf (by show 1 ≤ 1000; decide), fun lb nlb => ?_⟩⟩⟩
  have v4 : ∀ B, Same B H → VAt K (off B H7) (.list (m.queues.map natsR)) x4 := fun B sB => many_end sB p6 hG (hmG B sB) hy
  have c5 := same_new (o := .tup [.str "queues", x4]) n4
  have c6 := same_new (o := .lst [.ref t4]) nlb
  have r6 := s6.trans (s7.trans (c5.trans c6))
  have hla : HB la = some (.lst [.ref t1, .ref t2, .ref t3]) := by rw [← hB]; exact upd_same
  refine ⟨la, lb, _, _, rfl, rfl, r6 _ _ hla, upd_same, lineOf (by show 4 ≤ 1000; decide), fun a na => ?_⟩
  have c7 := same_new (o := .lst ([.ref t1, .ref t2, .ref t3] ++ [.ref t4])) na
  have e3 : HB t3 = some (.tup [.str "locks", x3]) := c4 _ _ upd_same
  have z := r6.trans c7
  have r4' := r4.trans z
  refine q _ a t1 t2 t3 t4 x1 x2 x3 x4 (p5.trans z) upd_same ((s4.trans (c2.trans r4')) _ _ upd_same) (r4' _ _ upd_same) (z _ _ e3) (c7 _ _ (c6 _ _ upd_same)) fun B sB => ?_
  refine ⟨x1, _, rfl, VAt.up (off_same (s3.trans (r34.trans r4'))) _ _ (v1 B sB), ?_⟩
  refine ⟨x2, _, rfl, VAt.up (off_same (c2.trans r4')) _ _ (v2 B (sB.trans q4)), ?_⟩
  refine ⟨x3, _, rfl, VAt.up (off_same (r5.trans z)) _ _ (v3 B sB), ?_⟩
  exact ⟨x4, _, rfl, VAt.up (off_same (c5.trans (c6.trans c7))) _ _ (v4 B sB), rfl⟩
end
end CT


namespace CT
open PySem PySem.Spec PyProof.Rows L2
/-! ### the desk: its parts, and all that stands beside them -/
inductive DP where
  | shelf | ps | rs | ws | out | walk (v : Nat) | mach (i : Nat) (q : MP)
  deriving DecidableEq
section
variable {ι : Type} [DecidableEq ι]
open Classical in
/-- what stands outside of the parts -/
noncomputable def rest (H : Hp) (S : ι → Hp) : Hp := fun b => if ∀ q, S q b = none then H b else none
theorem rest_at {H : Hp} {S : ι → Hp} {b : Addr} (h : ∀ q, S q b = none) : rest H S b = H b := by
  unfold rest
  rw [if_pos h]
theorem rest_in {H : Hp} {S : ι → Hp} : Same (rest H S) H := fun b o h => by
  unfold rest at h
  split at h
  · exact h
  · cases h
theorem rest_out {H : Hp} {S : ι → Hp} {b : Addr} {o : HO} (h : rest H S b = some o) : ∀ q, S q b = none := by
  unfold rest at h
  split at h
  · assumption
  · cases h
theorem rest_off {H : Hp} {S : ι → Hp} {b : Addr} {q : ι} (h : S q b ≠ none) : rest H S b = none := by
  unfold rest
  rw [if_neg (fun n => h (n q))]
theorem rest_stp {H H' : Hp} {S S' : ι → Hp} (s : Stp H S H' S') : Same (rest H S) (rest H' S') := fun b o h => by
  have n := rest_out h
  have e := rest_in b o h
  rw [rest_at (s.outside e n)]
  exact s.out b o e n
theorem rest_same {H H' : Hp} {S : ι → Hp} (s : Same H H') : Same (rest H S) (rest H' S) := rest_stp (Stp.same s)
/-- what is new stands outside -/
theorem off_rest {H H' : Hp} {S : ι → Hp} (F : Fam H S) : Same (off H H') (rest H' S) := fun b o h => by
  have e := off_in b o h
  have n : H b = none := by
    unfold off at h
    cases hb : H b with
    | none => rfl
    | some x => rw [hb] at h; cases h
  rw [rest_at (fun q => F.fresh n q)]
  exact e
theorem rest_new {H H' : Hp} {S : ι → Hp} (F : Fam H S) {b : Addr} {o : HO} (n : H b = none) (h : H' b = some o) : rest H' S b = some o := by
  rw [rest_at (fun q => F.fresh n q)]
  exact h
end
abbrev SW := R7285d.Spec.World
structure DLay where
  a : Addr
  pl : Addr
  rl : Addr
  wl : Addr
  ls : List Lay
section
variable (K : PySem.W.Frag)
abbrev cShelf : Addr := He.ga K "Shelf"
abbrev cWalk : Addr := He.ga K "Walk"
end
def shF (A : DLay) : List (PySem.Str × V) := [("programs", .ref A.pl), ("runs", .ref A.rl), ("walks", .ref A.wl)]
def wkF (m : Addr) (b : Bool) : List (PySem.Str × V) := [("machine", .ref m), ("is_over", .bl b)]
theorem shF_programs {A : DLay} : (shF A).lookup ("programs" : PySem.Str) = some (.ref A.pl) := by kernel_rfl
theorem shF_runs {A : DLay} : (shF A).lookup ("runs" : PySem.Str) = some (.ref A.rl) := by kernel_rfl
theorem shF_walks {A : DLay} : (shF A).lookup ("walks" : PySem.Str) = some (.ref A.wl) := by kernel_rfl
theorem wkF_machine {m : Addr} {b : Bool} : (wkF m b).lookup ("machine" : PySem.Str) = some (.ref m) := by kernel_rfl
theorem wkF_over {m : Addr} {b : Bool} : (wkF m b).lookup ("is_over" : PySem.Str) = some (.bl b) := by kernel_rfl
theorem wkF_put {m : Addr} {b c : Bool} : putF "is_over" (.bl c) (wkF m b) = wkF m c := by kernel_rfl
def ProgV (K : PySem.W.Frag) (F : Hp) (x : V) : Option Prog → Prop
  | none => x = .non
  | some g => ∃ pa crs, x = .ref pa ∧ PAt K F pa g crs ∧ Fit g
theorem ProgV.up {K : PySem.W.Frag} {F F' : Hp} (s : Same F F') {x : V} : ∀ {o : Option Prog}, ProgV K F x o → ProgV K F' x o
  | none, h => h
  | some g, ⟨pa, crs, e, h, f⟩ => ⟨pa, crs, e, h.up s, f⟩
def RunV (ls : List Lay) (x : V) : Option Nat → Prop
  | none => x = .non
  | some i => ∃ L, ls[i]? = some L ∧ x = .ref L.a
def WalkV (K : PySem.W.Frag) (ls : List Lay) (h : Hp) (x : V) : Option (Nat × Bool) → Prop
  | none => x = .non
  | some (i, b) => ∃ L wa dx, ls[i]? = some L ∧ x = .ref wa ∧ h wa = some (.ins (cWalk K) dx (wkF L.a b))
theorem RunV.app {ls : List Lay} {L : Lay} {x : V} : ∀ {o : Option Nat}, RunV ls x o → RunV (ls ++ [L]) x o
  | none, h => h
  | some i, ⟨M, e, h⟩ => ⟨M, by rw [List.getElem?_append_left (List.getElem?_eq_some_iff.mp e).1]; exact e, h⟩
theorem WalkV.app {K : PySem.W.Frag} {ls : List Lay} {L : Lay} {h : Hp} {x : V} : ∀ {o : Option (Nat × Bool)}, WalkV K ls h x o → WalkV K (ls ++ [L]) h x o
  | none, h => h
  | some (i, b), ⟨M, wa, dx, e, h⟩ => ⟨M, wa, dx, by rw [List.getElem?_append_left (List.getElem?_eq_some_iff.mp e).1]; exact e, h⟩
theorem WalkV.up {K : PySem.W.Frag} {ls : List Lay} {h h' : Hp} (s : Same h h') {x : V} : ∀ {o : Option (Nat × Bool)}, WalkV K ls h x o → WalkV K ls h' x o
  | none, h => h
  | some (i, b), ⟨M, wa, dx, e, e2, h⟩ => ⟨M, wa, dx, e, e2, s _ _ h⟩
/-- a run on the desk -/
structure RunAt (K : PySem.W.Frag) (H F : Hp) (S : MP → Hp) (L : Lay) (st : R7285d.Spec.RunState) (n : Nat) : Prop where
  at_ : MAt K H S L st.prog st.machine st.events
  prog : PAt K F L.pa st.prog L.crs
  fit : Fit st.prog
  wf : Wf st.prog st.machine st.events
  few : st.events ≤ n
structure DAt (K : PySem.W.Frag) (H : Hp) (S : DP → Hp) (A : DLay) (w : SW) (n : Nat) : Prop where
  fam : Fam H S
  shelf : ∃ dx, S .shelf A.a = some (.ins (cShelf K) dx (shF A))
  ps : ∃ xs, S .ps A.pl = some (.lst xs) ∧ All2 (ProgV K (rest H S)) xs w.programs
  rs : ∃ xs, S .rs A.rl = some (.lst xs) ∧ All2 (RunV A.ls) xs w.runs
  ws : ∃ xs, S .ws A.wl = some (.lst xs) ∧ xs.length = w.walks.length ∧ ∀ (v : Nat) (x : V) (o : Option (Nat × Bool)), xs[v]? = some x → w.walks[v]? = some o → WalkV K A.ls (S (.walk v)) x o
  lp : w.programs.length = 2
  lr : w.runs.length = 2
  lw : w.walks.length = 2
  lens : A.ls.length = w.heap.length
  heap : ∀ (i : Nat) (L : Lay) (st : R7285d.Spec.RunState), A.ls[i]? = some L → w.heap[i]? = some st → RunAt K H (rest H S) (fun q => S (.mach i q)) L st n
/-- from H, S to H', S'; the list of the answers is not touched -/
structure DStp (H : Hp) (S : DP → Hp) (H' : Hp) (S' : DP → Hp) : Prop where
  stp : Stp H S H' S'
  out : S' .out = S .out
theorem DStp.same {H H' : Hp} {S : DP → Hp} (e : Same H H') : DStp H S H' S := ⟨Stp.same e, rfl⟩
theorem DStp.trans {H H1 H2 : Hp} {S S1 S2 : DP → Hp} (a : DStp H S H1 S1) (b : DStp H1 S1 H2 S2) : DStp H S H2 S2 := ⟨a.stp.trans b.stp, b.out.trans a.out⟩
section
variable {K : PySem.W.Frag} {H H' : Hp} {S : DP → Hp} {A : DLay} {w : SW} {n : Nat}
theorem Fam.mach (F : Fam H S) (i : Nat) : Fam H (fun q => S (.mach i q)) := ⟨fun q b o h => F.sub _ b o h, fun q r b h k => by
  have := F.dis _ _ b h k
  injection this⟩
theorem RunAt.mw {F : Hp} {T : MP → Hp} {L : Lay} {st : R7285d.Spec.RunState} (R : RunAt K H F T L st n) (f : Fam H T) : MW K H T L st.prog st.machine st.events := ⟨f, R.at_⟩
theorem DAt.bes (D : DAt K H S A w n) {i : Nat} {L : Lay} {st : R7285d.Spec.RunState} (R : RunAt K H (rest H S) (fun q => S (.mach i q)) L st n) : Bes K (rest H S) H (fun q => S (.mach i q)) L st.prog := ⟨rest_in, fun q b h => rest_off (q := DP.mach i q) h, R.prog, R.fit⟩
theorem RunAt.up {F F' : Hp} {T : MP → Hp} {L : Lay} {st : R7285d.Spec.RunState} {m : Nat} (R : RunAt K H F T L st n) (tp : ∀ b xs, H b = some (.tup xs) → H' b = some (.tup xs)) (s : Same F F') (h : n ≤ m) : RunAt K H' F' T L st m := ⟨R.at_.tups tp, R.prog.up s, R.fit, R.wf, Nat.le_trans R.few h⟩
theorem DAt.same (D : DAt K H S A w n) (s : Same H H') : DAt K H' S A w n where
  fam := D.fam.same s
  shelf := D.shelf
  ps := by
    obtain ⟨xs, h1, h2⟩ := D.ps
    exact ⟨xs, h1, h2.mono fun x o h => h.up (rest_same s)⟩
  rs := D.rs
  ws := D.ws
  lp := D.lp
  lr := D.lr
  lw := D.lw
  lens := D.lens
  heap := fun i L st h1 h2 => (D.heap i L st h1 h2).up (fun b xs e => s _ _ e) (rest_same s) (Nat.le_refl _)
theorem DAt.more (D : DAt K H S A w n) {m : Nat} (h : n ≤ m) : DAt K H S A w m := { D with heap := fun i L st h1 h2 => (D.heap i L st h1 h2).up (fun b xs e => e) (Same.refl _) h }
theorem DAt.shelfAt (D : DAt K H S A w n) : ∃ dx, H A.a = some (.ins (cShelf K) dx (shF A)) := by
  obtain ⟨dx, h⟩ := D.shelf
  exact ⟨dx, D.fam.sub _ _ _ h⟩
theorem DAt.progAt (D : DAt K H S A w n) {p : Nat} {g : Prog} (h : R7285d.Spec.programAt w p = some g) : ∃ xs pa crs, H A.pl = some (.lst xs) ∧ xs[p]? = some (.ref pa) ∧ PAt K (rest H S) pa g crs ∧ Fit g := by
  obtain ⟨xs, h1, h2⟩ := D.ps
  have hg : w.programs[p]? = some (some g) := by
    unfold R7285d.Spec.programAt at h
    rw [List.getD_eq_getElem?_getD] at h
    cases e : w.programs[p]? with
    | none => rw [e] at h; cases h
    | some o => rw [e] at h; exact congrArg some h
  have lt := (List.getElem?_eq_some_iff.mp hg).1
  obtain ⟨x, hx⟩ := get_lt (l := xs) (i := p) (by rw [h2.len]; exact lt)
  obtain ⟨pa, crs, e, h3, h4⟩ := h2.get hx hg
  exact ⟨xs, pa, crs, D.fam.sub _ _ _ h1, by rw [hx, e], h3, h4⟩
theorem DAt.runAt (D : DAt K H S A w n) {r : Nat} {st : R7285d.Spec.RunState} (h : R7285d.Spec.runAt w r = some st) : ∃ xs i L, R7285d.Spec.runIndex w r = some i ∧ w.heap[i]? = some st ∧ H A.rl = some (.lst xs) ∧ xs[r]? = some (.ref L.a) ∧ A.ls[i]? = some L ∧ RunAt K H (rest H S) (fun q => S (.mach i q)) L st n := by
  obtain ⟨xs, h1, h2⟩ := D.rs
  unfold R7285d.Spec.runAt at h
  cases hi : R7285d.Spec.runIndex w r with
  | none => rw [hi] at h; cases h
  | some i =>
    rw [hi] at h
    have h : w.heap[i]? = some st := h
    have hg : w.runs[r]? = some (some i) := by
      unfold R7285d.Spec.runIndex at hi
      rw [List.getD_eq_getElem?_getD] at hi
      cases e : w.runs[r]? with
      | none => rw [e] at hi; cases hi
      | some o => rw [e] at hi; exact congrArg some hi
    have lt := (List.getElem?_eq_some_iff.mp hg).1
    obtain ⟨x, hx⟩ := get_lt (l := xs) (i := r) (by rw [h2.len]; exact lt)
    obtain ⟨L, e, h3⟩ := h2.get hx hg
    exact ⟨xs, i, L, rfl, h, D.fam.sub _ _ _ h1, by rw [hx, h3], e, D.heap i L st e h⟩
theorem DAt.walkAt (D : DAt K H S A w n) {v : Nat} {q : Nat × Bool} (h : R7285d.Spec.walkAt w v = some q) : ∃ xs L wa dx, H A.wl = some (.lst xs) ∧ xs[v]? = some (.ref wa) ∧ A.ls[q.1]? = some L ∧ S (.walk v) wa = some (.ins (cWalk K) dx (wkF L.a q.2)) ∧ v < w.walks.length := by
  obtain ⟨xs, h1, h2, h3⟩ := D.ws
  have hg : w.walks[v]? = some (some q) := by
    unfold R7285d.Spec.walkAt at h
    rw [List.getD_eq_getElem?_getD] at h
    cases e : w.walks[v]? with
    | none => rw [e] at h; cases h
    | some o => rw [e] at h; exact congrArg some h
  have lt := (List.getElem?_eq_some_iff.mp hg).1
  obtain ⟨x, hx⟩ := get_lt (l := xs) (i := v) (by rw [h2]; exact lt)
  obtain ⟨L, wa, dx, e, e2, h4⟩ := h3 v x (some q) hx hg
  exact ⟨xs, L, wa, dx, D.fam.sub _ _ _ h1, by rw [hx, e2], e, h4, lt⟩
end
theorem All2.set {α β : Type} {R : α → β → Prop} {as : List α} {bs : List β} (h : All2 R as bs) {i : Nat} {a : α} {b : β} (r : R a b) : All2 R (as.set i a) (bs.set i b) := by
  refine All2.of_get (by simp [h.len]) fun j x y hx hy => ?_
  by_cases z : j = i
  · subst z
    have l1 : j < as.length := by
      have := (List.getElem?_eq_some_iff.mp hx).1
      simpa using this
    have l2 : j < bs.length := by
      have := (List.getElem?_eq_some_iff.mp hy).1
      simpa using this
    simp [l1] at hx
    simp [l2] at hy
    subst hx hy
    exact r
  · rw [set_other z] at hx hy
    exact h.get hx hy
/-! ### the steps -/
def putM (S : DP → Hp) (i : Nat) (T : MP → Hp) : DP → Hp
  | .mach j q => if j = i then T q else S (.mach j q)
  | d => S d
theorem putM_at {S : DP → Hp} {i : Nat} {T : MP → Hp} {q : MP} : putM S i T (.mach i q) = T q := if_pos rfl
theorem putM_off {S : DP → Hp} {i : Nat} {T : MP → Hp} {d : DP} (h : ∀ q, d ≠ .mach i q) : putM S i T d = S d := by
  cases d with
  | mach j q => exact if_neg fun e => h q (by rw [e])
  | _ => rfl
theorem mach_or (i : Nat) (d : DP) : (∃ q, d = .mach i q) ∨ ∀ q, d ≠ .mach i q := by
  cases d with
  | mach j q =>
    by_cases e : j = i
    · exact .inl ⟨q, by rw [e]⟩
    · exact .inr fun r z => e (by injection z)
  | _ => exact .inr fun r z => by cases z
def sing (a : Addr) (o : HO) : Hp := fun b => if b = a then some o else none
theorem sing_at {a : Addr} {o : HO} : sing a o a = some o := if_pos rfl
theorem sing_some {a b : Addr} {o u : HO} (h : sing a o b = some u) : b = a ∧ u = o := by
  unfold sing at h
  split at h
  · cases h
    exact ⟨by assumption, rfl⟩
  · cases h
theorem sing_ne {a b : Addr} {o : HO} (h : sing a o b ≠ none) : b = a := by
  rcases none_or (sing a o b) with e | ⟨u, e⟩
  · exact absurd e h
  · exact (sing_some e).1
section
variable {K : PySem.W.Frag} {H H' : Hp} {S : DP → Hp} {A : DLay} {w : SW} {n : Nat}
theorem putM_fun {i j : Nat} {T : MP → Hp} (h : j ≠ i) : (fun q => putM S i T (.mach j q)) = fun q => S (.mach j q) := by
  funext q
  exact if_neg h
theorem putM_self {i : Nat} {T : MP → Hp} : (fun q => putM S i T (.mach i q)) = T := by
  funext q
  exact if_pos rfl
theorem Fam.putM (F : Fam H S) {i : Nat} {T : MP → Hp} (s : ∀ b o, H b = some o → (∀ q, S (.mach i q) b = none) → H' b = some o) (dm : ∀ q b, T q b ≠ none → (∃ r, S (.mach i r) b ≠ none) ∨ H b = none) (G : Fam H' T) : Fam H' (putM S i T) where
  sub := fun d b o h => by
    rcases mach_or i d with ⟨q, rfl⟩ | e
    · rw [putM_at] at h
      exact G.sub q b o h
    · rw [putM_off e] at h
      exact s b o (F.sub d b o h) fun q => F.one h fun z => e q z.symm
  dis := fun d e b h k => by
    have key : ∀ q d, CT.putM S i T (.mach i q) b ≠ none → (∀ q, d ≠ .mach i q) → S d b ≠ none → False := fun q d h e k => by
      rw [putM_at] at h
      rcases dm q b h with ⟨r, z⟩ | z
      · exact e r (F.dis d (.mach i r) b k z)
      · obtain ⟨u, hu⟩ : ∃ u, S d b = some u := by
          rcases none_or (S d b) with y | y
          · exact absurd y k
          · exact y
        rw [F.sub d b u hu] at z
        cases z
    rcases mach_or i d with ⟨q, rfl⟩ | e1
    · rcases mach_or i e with ⟨r, rfl⟩ | e2
      · rw [putM_at] at h k
        rw [G.dis q r b h k]
      · rw [putM_off e2] at k
        exact (key q e h e2 k).elim
    · rcases mach_or i e with ⟨r, rfl⟩ | e2
      · rw [putM_off e1] at h
        exact (key r d k e1 h).elim
      · rw [putM_off e1] at h
        rw [putM_off e2] at k
        exact F.dis d e b h k
theorem Stp.putM {i : Nat} {T : MP → Hp} (s : ∀ b o, H b = some o → (∀ q, S (.mach i q) b = none) → H' b = some o) (dm : ∀ q b, T q b ≠ none → (∃ r, S (.mach i r) b ≠ none) ∨ H b = none) (tp : ∀ b xs, H b = some (.tup xs) → H' b = some (.tup xs)) : Stp H S H' (putM S i T) where
  out := fun b o h n => s b o h fun q => n (.mach i q)
  dom := fun d b h => by
    rcases mach_or i d with ⟨q, rfl⟩ | e
    · rw [putM_at] at h
      rcases dm q b h with ⟨r, z⟩ | z
      · exact .inl ⟨_, z⟩
      · exact .inr z
    · rw [putM_off e] at h
      exact .inl ⟨_, h⟩
  tups := tp
theorem DAt.goes (D : DAt K H S A w n) {i k : Nat} {L : Lay} {st : R7285d.Spec.RunState} {m' : Mach} {n' : Nat} (hL : A.ls[i]? = some L) (hs : w.heap[i]? = some st) (G : Goes K L st.prog H (fun q => S (.mach i q)) H' m' n') (wf : Wf st.prog m' n') (le : n ≤ k) (hn : n' ≤ k) :
    ∃ S', DStp H S H' S' ∧ DAt K H' S' A { w with heap := w.heap.set i ⟨st.prog, m', n'⟩ } k := by
  obtain ⟨T, W, s⟩ := G
  have R := D.heap i L st hL hs
  have sp := Stp.putM (S := S) (i := i) s.out s.dom s.tups
  have rs := rest_stp sp
  refine ⟨_, ⟨sp, rfl⟩, D.fam.putM s.out s.dom W.fam, D.shelf, ?_, D.rs, D.ws, D.lp, D.lr, D.lw, by simp [D.lens], fun j M r a b => ?_⟩
  · obtain ⟨xs, h1, h2⟩ := D.ps
    exact ⟨xs, h1, h2.mono fun x o h => h.up rs⟩
  · by_cases z : j = i
    · subst z
      rw [hL] at a
      cases a
      rw [show ({ w with heap := w.heap.set j ⟨st.prog, m', n'⟩ } : SW).heap = w.heap.set j ⟨st.prog, m', n'⟩ from rfl, set_get hs] at b
      cases b
      rw [putM_self]
      exact ⟨W.at_, R.prog.up rs, R.fit, wf, hn⟩
    · rw [show ({ w with heap := w.heap.set i ⟨st.prog, m', n'⟩ } : SW).heap = w.heap.set i ⟨st.prog, m', n'⟩ from rfl, set_other z] at b
      rw [putM_fun z]
      exact (D.heap j M r a b).up s.tups rs le
theorem DAt.newRun (D : DAt K H S A w n) (s : Same H H') {T : MP → Hp} {L : Lay} {st : R7285d.Spec.RunState} (new : ∀ q b, T q b ≠ none → H b = none) (W : MW K H' T L st.prog st.machine st.events) (hp : PAt K (rest H S) L.pa st.prog L.crs) (fit : Fit st.prog) (wf : Wf st.prog st.machine st.events) (few : st.events ≤ n) :
    ∃ S', DStp H S H' S' ∧ DAt K H' S' { A with ls := A.ls ++ [L] } { w with heap := w.heap ++ [st] } n := by
  have sp := Stp.putM (S := S) (i := w.heap.length) (T := T) (fun b o h _ => s b o h) (fun q b h => .inr (new q b h)) (fun b xs h => s b _ h)
  have rs := rest_stp sp
  refine ⟨_, ⟨sp, rfl⟩, D.fam.putM (fun b o h _ => s b o h) (fun q b h => .inr (new q b h)) W.fam, D.shelf, ?_, ?_, ?_, D.lp, D.lr, D.lw, by simp [D.lens], fun j M r a b => ?_⟩
  · obtain ⟨xs, h1, h2⟩ := D.ps
    exact ⟨xs, h1, h2.mono fun x o h => h.up rs⟩
  · obtain ⟨xs, h1, h2⟩ := D.rs
    exact ⟨xs, h1, h2.mono fun x o h => h.app⟩
  · obtain ⟨xs, h1, h2, h3⟩ := D.ws
    exact ⟨xs, h1, h2, fun v x o a b => (h3 v x o a b).app⟩
  · have b : (w.heap ++ [st])[j]? = some r := b
    have a : (A.ls ++ [L])[j]? = some M := a
    by_cases z : j = w.heap.length
    · subst z
      rw [← D.lens] at a
      simp at a b
      subst a b
      rw [putM_self]
      exact ⟨W.at_, hp.up rs, fit, wf, few⟩
    · have lt : j < w.heap.length := by
        have := (List.getElem?_eq_some_iff.mp b).1
        simp at this
        omega
      rw [List.getElem?_append_left lt] at b
      rw [List.getElem?_append_left (by rw [D.lens]; exact lt)] at a
      rw [putM_fun z]
      exact (D.heap j M r a b).up (fun b xs h => s b _ h) rs (Nat.le_refl _)
/-- a part is written: only its own object -/
theorem DAt.wrProg (D : DAt K H S A w n) {p : Nat} {pa : Addr} {g : Prog} {crs : List Addr} {xs : List V} (hx : H A.pl = some (.lst xs)) (hp : PAt K (rest H S) pa g crs) (fit : Fit g) :
    ∃ S', DStp H S (upd H A.pl (.lst (xs.set p (.ref pa)))) S' ∧ DAt K (upd H A.pl (.lst (xs.set p (.ref pa)))) S' A { w with programs := w.programs.set p (some g) } n := by
  obtain ⟨ys, h1, h2⟩ := D.ps
  have e := D.fam.sub _ _ _ h1
  rw [hx] at e
  cases e
  have st := Stp.wr D.fam h1 lst_tup (.lst (xs.set p (.ref pa)))
  have rs := rest_stp st
  have tp := st.tups
  refine ⟨_, ⟨st, rfl⟩, D.fam.wr h1 _, D.shelf, ⟨_, by rw [putS_same]; exact upd_same, ?_⟩, D.rs, ?_, by simp [D.lp], D.lr, D.lw, D.lens, fun i L r a b => ?_⟩
  · refine (h2.mono fun x o h => h.up rs).set ?_
    exact ⟨pa, crs, rfl, hp.up rs, fit⟩
  · exact D.ws
  · exact (D.heap i L r a b).up tp rs (Nat.le_refl _)
theorem DAt.wrRun (D : DAt K H S A w n) {r i : Nat} {L : Lay} {xs : List V} (hx : H A.rl = some (.lst xs)) (hL : A.ls[i]? = some L) :
    ∃ S', DStp H S (upd H A.rl (.lst (xs.set r (.ref L.a)))) S' ∧ DAt K (upd H A.rl (.lst (xs.set r (.ref L.a)))) S' A { w with runs := w.runs.set r (some i) } n := by
  obtain ⟨ys, h1, h2⟩ := D.rs
  have e := D.fam.sub _ _ _ h1
  rw [hx] at e
  cases e
  have st := Stp.wr D.fam h1 lst_tup (.lst (xs.set r (.ref L.a)))
  have rs := rest_stp st
  have tp := st.tups
  refine ⟨_, ⟨st, rfl⟩, D.fam.wr h1 _, D.shelf, ?_, ⟨_, by rw [putS_same]; exact upd_same, h2.set ⟨L, hL, rfl⟩⟩, D.ws, D.lp, by simp [D.lr], D.lw, D.lens, fun i L r a b => ?_⟩
  · obtain ⟨xs, h1, h2⟩ := D.ps
    exact ⟨xs, h1, h2.mono fun x o h => h.up rs⟩
  · exact (D.heap i L r a b).up tp rs (Nat.le_refl _)
theorem DAt.newWalk (D : DAt K H S A w n) (s : Same H H') {v i : Nat} {L : Lay} {wa dx : Addr} {xs : List V} (nw : H wa = none) (hw : H' wa = some (.ins (cWalk K) dx (wkF L.a false))) (hx : H' A.wl = some (.lst xs)) (hL : A.ls[i]? = some L) :
    ∃ S', DStp H S (upd H' A.wl (.lst (xs.set v (.ref wa)))) S' ∧ DAt K (upd H' A.wl (.lst (xs.set v (.ref wa)))) S' A { w with walks := w.walks.set v (some (i, false)) } n := by
  obtain ⟨ys, h1, h2, h3⟩ := D.ws
  have e := s _ _ (D.fam.sub _ _ _ h1)
  rw [hx] at e
  cases e
  have F1 : Fam H' (putS S (.walk v) (sing wa (.ins (cWalk K) dx (wkF L.a false)))) := {
    sub := fun d b o h => by
      by_cases z : d = .walk v
      · subst z
        rw [putS_same] at h
        obtain ⟨rfl, rfl⟩ := sing_some h
        exact hw
      · rw [putS_ne z] at h
        exact s b o (D.fam.sub d b o h)
    dis := fun d e b h k => by
      have key : ∀ e, e ≠ DP.walk v → putS S (.walk v) (sing wa (.ins (cWalk K) dx (wkF L.a false))) (.walk v) b ≠ none → S e b ≠ none → False := fun e z h k => by
        rw [putS_same] at h
        rw [sing_ne h, D.fam.fresh nw e] at k
        exact k rfl
      by_cases z : d = .walk v
      · by_cases y : e = .walk v
        · rw [z, y]
        · subst z
          rw [putS_ne y] at k
          exact (key e y h k).elim
      · by_cases y : e = .walk v
        · subst y
          rw [putS_ne z] at h
          exact (key d z k h).elim
        · rw [putS_ne z] at h
          rw [putS_ne y] at k
          exact D.fam.dis d e b h k }
  have S1 : Stp H S H' (putS S (.walk v) (sing wa (.ins (cWalk K) dx (wkF L.a false)))) := {
    out := fun b o h _ => s b o h
    dom := fun d b h => by
      by_cases z : d = .walk v
      · subst z
        rw [putS_same] at h
        rw [sing_ne h]
        exact .inr nw
      · rw [putS_ne z] at h
        exact .inl ⟨d, h⟩
    tups := fun b xs h => s b _ h }
  have h1' : putS S (.walk v) (sing wa (.ins (cWalk K) dx (wkF L.a false))) .ws A.wl = some (.lst xs) := h1
  have st := S1.trans (Stp.wr F1 h1' lst_tup (.lst (xs.set v (.ref wa))))
  have rs := rest_stp st
  refine ⟨_, ⟨st, rfl⟩, F1.wr h1' _, D.shelf, ?_, D.rs, ⟨_, by rw [putS_same]; exact upd_same, by simp [h2], fun u x o a b => ?_⟩, D.lp, D.lr, by simp [D.lw], D.lens, fun i L r a b => ?_⟩
  · obtain ⟨xs, h1, h2⟩ := D.ps
    exact ⟨xs, h1, h2.mono fun x o h => h.up rs⟩
  · have b : (w.walks.set v (some (i, false)))[u]? = some o := b
    rw [putS_ne (by intro z; cases z)]
    by_cases z : u = v
    · subst z
      have l1 : u < xs.length := by
        have := (List.getElem?_eq_some_iff.mp a).1
        simpa using this
      simp [l1] at a
      simp [h2 ▸ l1] at b
      subst a b
      rw [putS_same]
      exact ⟨L, wa, dx, hL, rfl, sing_at⟩
    · rw [set_other z] at a b
      rw [putS_ne (fun q => z (by injection q))]
      exact h3 u x o a b
  · exact (D.heap i L r a b).up st.tups rs (Nat.le_refl _)
theorem DAt.overWalk (D : DAt K H S A w n) {v i : Nat} {b0 : Bool} {L : Lay} {wa dx : Addr} (hq : R7285d.Spec.walkAt w v = some (i, b0)) (hL : A.ls[i]? = some L) (hw : S (.walk v) wa = some (.ins (cWalk K) dx (wkF L.a b0))) (hs : ∀ xs, H A.wl = some (.lst xs) → xs[v]? = some (.ref wa)) :
    ∃ S', DStp H S (upd H wa (.ins (cWalk K) dx (wkF L.a true))) S' ∧ DAt K (upd H wa (.ins (cWalk K) dx (wkF L.a true))) S' A { w with walks := w.walks.set v (some (i, true)) } n := by
  obtain ⟨ys, h1, h2, h3⟩ := D.ws
  have st := Stp.wr D.fam hw ins_tup (.ins (cWalk K) dx (wkF L.a true))
  have rs := rest_stp st
  have hy := hs ys (D.fam.sub _ _ _ h1)
  refine ⟨_, ⟨st, rfl⟩, D.fam.wr hw _, D.shelf, ?_, D.rs, ⟨ys, h1, by simp [h2], fun u x o a b => ?_⟩, D.lp, D.lr, by simp [D.lw], D.lens, fun i L r a b => ?_⟩
  · obtain ⟨xs, h1, h2⟩ := D.ps
    exact ⟨xs, h1, h2.mono fun x o h => h.up rs⟩
  · have b : (w.walks.set v (some (i, true)))[u]? = some o := b
    by_cases z : u = v
    · subst z
      rw [hy] at a
      cases a
      have l1 := (List.getElem?_eq_some_iff.mp hy).1
      simp [h2 ▸ l1] at b
      subst b
      rw [putS_same]
      exact ⟨L, wa, dx, hL, rfl, upd_same⟩
    · rw [set_other z] at b
      rw [putS_ne (fun q => z (by injection q))]
      exact h3 u x o a b
  · exact (D.heap i L r a b).up st.tups rs (Nat.le_refl _)
end
/-- the desk at its beginning -/
def S0 (K : PySem.W.Frag) (a dx pl rl wl : Addr) : DP → Hp
  | .shelf => sing a (.ins (cShelf K) dx (shF ⟨a, pl, rl, wl, []⟩))
  | .ps => sing pl (.lst [.non, .non])
  | .rs => sing rl (.lst [.non, .non])
  | .ws => sing wl (.lst [.non, .non])
  | _ => fun _ => none
theorem DAt.start {K : PySem.W.Frag} {H : Hp} {a dx pl rl wl : Addr} (h1 : H a = some (.ins (cShelf K) dx (shF ⟨a, pl, rl, wl, []⟩))) (h2 : H pl = some (.lst [.non, .non])) (h3 : H rl = some (.lst [.non, .non])) (h4 : H wl = some (.lst [.non, .non])) (n1 : pl ≠ rl) (n2 : pl ≠ wl) (n3 : rl ≠ wl) (n : Nat) :
    DAt K H (S0 K a dx pl rl wl) ⟨a, pl, rl, wl, []⟩ R7285d.Spec.World.start n := by
  have n4 : a ≠ pl := ne_of h1 h2 (fun z => nomatch z)
  have n5 : a ≠ rl := ne_of h1 h3 (fun z => nomatch z)
  have n6 : a ≠ wl := ne_of h1 h4 (fun z => nomatch z)
  refine ⟨⟨fun d b o h => ?_, fun d e b h k => ?_⟩, ⟨dx, sing_at⟩, ⟨_, sing_at, .cons rfl (.cons rfl .nil)⟩, ⟨_, sing_at, .cons rfl (.cons rfl .nil)⟩, ⟨_, sing_at, rfl, fun v x o a b => ?_⟩, rfl, rfl, rfl, rfl, fun i L st a b => by simp at a⟩
  · cases d with
    | shelf => obtain ⟨rfl, rfl⟩ := sing_some h; exact h1
    | ps => obtain ⟨rfl, rfl⟩ := sing_some h; exact h2
    | rs => obtain ⟨rfl, rfl⟩ := sing_some h; exact h3
    | ws => obtain ⟨rfl, rfl⟩ := sing_some h; exact h4
    | out => cases h
    | walk v => cases h
    | mach i q => cases h
  · have key : ∀ d, S0 K a dx pl rl wl d b ≠ none → (d = .shelf ∧ b = a) ∨ (d = .ps ∧ b = pl) ∨ (d = .rs ∧ b = rl) ∨ (d = .ws ∧ b = wl) := fun d h => by
      cases d with
      | shelf => exact .inl ⟨rfl, sing_ne h⟩
      | ps => exact .inr (.inl ⟨rfl, sing_ne h⟩)
      | rs => exact .inr (.inr (.inl ⟨rfl, sing_ne h⟩))
      | ws => exact .inr (.inr (.inr ⟨rfl, sing_ne h⟩))
      | out => exact absurd rfl h
      | walk v => exact absurd rfl h
      | mach i q => exact absurd rfl h
    rcases key d h with ⟨rfl, z⟩ | ⟨rfl, z⟩ | ⟨rfl, z⟩ | ⟨rfl, z⟩ <;> rcases key e k with ⟨rfl, y⟩ | ⟨rfl, y⟩ | ⟨rfl, y⟩ | ⟨rfl, y⟩ <;> first | rfl | exact absurd (z.symm.trans y) (by assumption) | exact absurd (y.symm.trans z) (by assumption)
  · have a' : ([V.non, V.non] : List V)[v]? = some x := a
    have b' : (List.replicate 2 (none : Option (Nat × Bool)))[v]? = some o := b
    have e1 : x = .non := by
      have := List.mem_of_getElem? a'
      simpa using this
    have e2 : o = none := List.eq_of_mem_replicate (List.mem_of_getElem? b')
    subst e1 e2
    rfl
section
variable {K : PySem.W.Frag} {H H' : Hp} {S : DP → Hp} {A : DLay} {w : SW} {n : Nat}
/-- the list of the answers -/
theorem DAt.newOut (D : DAt K H S A w n) {b : Addr} {o : HO} (nb : H b = none) : DAt K (upd H b o) (putS S .out (sing b o)) A w n ∧ Stp H S (upd H b o) (putS S .out (sing b o)) := by
  have s := same_new (o := o) nb
  have F1 : Fam (upd H b o) (putS S .out (sing b o)) := {
    sub := fun d c u h => by
      by_cases z : d = .out
      · subst z
        rw [putS_same] at h
        obtain ⟨rfl, rfl⟩ := sing_some h
        exact upd_same
      · rw [putS_ne z] at h
        exact s c u (D.fam.sub d c u h)
    dis := fun d e c h k => by
      have key : ∀ e, e ≠ DP.out → putS S .out (sing b o) .out c ≠ none → S e c ≠ none → False := fun e z h k => by
        rw [putS_same] at h
        rw [sing_ne h, D.fam.fresh nb e] at k
        exact k rfl
      by_cases z : d = .out
      · by_cases y : e = .out
        · rw [z, y]
        · subst z
          rw [putS_ne y] at k
          exact (key e y h k).elim
      · by_cases y : e = .out
        · subst y
          rw [putS_ne z] at h
          exact (key d z k h).elim
        · rw [putS_ne z] at h
          rw [putS_ne y] at k
          exact D.fam.dis d e c h k }
  have S1 : Stp H S (upd H b o) (putS S .out (sing b o)) := {
    out := fun c u h _ => s c u h
    dom := fun d c h => by
      by_cases z : d = .out
      · subst z
        rw [putS_same] at h
        rw [sing_ne h]
        exact .inr nb
      · rw [putS_ne z] at h
        exact .inl ⟨d, h⟩
    tups := fun c xs h => s c _ h }
  have rs := rest_stp S1
  refine ⟨⟨F1, D.shelf, ?_, D.rs, D.ws, D.lp, D.lr, D.lw, D.lens, fun i L r a b => ?_⟩, S1⟩
  · obtain ⟨xs, h1, h2⟩ := D.ps
    exact ⟨xs, h1, h2.mono fun x o h => h.up rs⟩
  · exact (D.heap i L r a b).up S1.tups rs (Nat.le_refl _)
theorem DAt.wrOut (D : DAt K H S A w n) {b : Addr} {xs : List V} (hb : S .out b = some (.lst xs)) (ys : List V) : DAt K (upd H b (.lst ys)) (putS S .out (upd (S .out) b (.lst ys))) A w n ∧ Stp H S (upd H b (.lst ys)) (putS S .out (upd (S .out) b (.lst ys))) := by
  have st := Stp.wr D.fam hb lst_tup (.lst ys)
  have rs := rest_stp st
  refine ⟨⟨D.fam.wr hb _, D.shelf, ?_, D.rs, D.ws, D.lp, D.lr, D.lw, D.lens, fun i L r a b => ?_⟩, st⟩
  · obtain ⟨xs, h1, h2⟩ := D.ps
    exact ⟨xs, h1, h2.mono fun x o h => h.up rs⟩
  · exact (D.heap i L r a b).up st.tups rs (Nat.le_refl _)
end
def noS : DP → Hp := fun _ _ => none
theorem rest_noS {H : Hp} : Same H (rest H noS) := fun b o h => by
  rw [rest_at (fun _ => rfl)]
  exact h
theorem start_stp {K : PySem.W.Frag} {H H1 : Hp} {a dx pl rl wl : Addr} (s : Same H H1) (n1 : H a = none) (n2 : H pl = none) (n3 : H rl = none) (n4 : H wl = none) : Stp H noS H1 (S0 K a dx pl rl wl) where
  out := fun b o h _ => s b o h
  dom := fun d b h => by
    cases d with
    | shelf => rw [sing_ne h]; exact .inr n1
    | ps => rw [sing_ne h]; exact .inr n2
    | rs => rw [sing_ne h]; exact .inr n3
    | ws => rw [sing_ne h]; exact .inr n4
    | out => exact absurd rfl h
    | walk v => exact absurd rfl h
    | mach i q => exact absurd rfl h
  tups := fun b xs h => s b _ h
end CT

namespace CT
open PySem PySem.Spec PyProof.Rows L2
def raceR : Option (Nat × Nat × Nat) → RWire.Value
  | none => .null
  | some x => .record (([("event" : PySem.Str), "thread", "variable"].map txt).zip [.int (x.1 : Int), .int (x.2.1 : Int), .int (x.2.2 : Int)])
def RcV (H : Hp) (r : V) : Option (Nat × Nat × Nat) → Prop
  | none => r = .non
  | some x => ∃ a, r = .ref a ∧ H a = some (.tup [natV x.1, natV x.2.1, natV x.2.2])
def iterR (v : RWire.Value) (b : Bool) : RWire.Value := .record (([("value" : PySem.Str), "done"].map txt).zip [v, .bool b])
/-- all but a part -/
def minus (H F : Hp) : Hp := fun b => match F b with
  | none => H b
  | some _ => none
theorem minus_in {H F : Hp} : Same (minus H F) H := fun b o h => by
  unfold minus at h
  cases e : F b with
  | none => rw [e] at h; exact h
  | some x => rw [e] at h; cases h
theorem minus_sub {H F : Hp} (s : Same F H) : Same F (off (minus H F) H) := fun b o h => by
  have : minus H F b = none := by
    unfold minus
    rw [h]
  rw [off_none this]
  exact s b o h
theorem minus_out {H H' F F' : Hp} (sF : Same F H) (s : Same H H') (s1 : Same F F') (s2 : Same (off H H') F') : Same (off (minus H F) H') F' := fun b o h => by
  cases e : F b with
  | some u =>
    have e1 := s _ _ (sF _ _ e)
    have e2 := off_in b o h
    rw [e1] at e2
    cases e2
    exact s1 _ _ e
  | none =>
    cases e2 : H b with
    | none =>
      refine s2 b o ?_
      rw [off_none e2]
      exact off_in b o h
    | some u =>
      have : minus H F b = some u := by
        unfold minus
        rw [e]
        exact e2
      unfold off at h
      rw [this] at h
      cases h
section
variable {P : Program} {w : World} {K : PySem.W.Frag} {mg : PySem.Str → Option Value} {base : Heap}
def spWalk (K : PySem.W.Frag) : Sp := sp1 fun x H Q _ => ∃ m, x = .ref m ∧ ∀ H' a dx, Same H H' → H a = none → H' a = some (.ins (cWalk K) dx (wkF m false)) → Q (.ref a) H'
def siWalk (K : PySem.W.Frag) : Sp := sp2 fun s x H Q _ => ∃ a dx m, s = .ref a ∧ x = .ref m ∧ H a = some (.ins (cWalk K) dx []) ∧ ∀ H', (∀ b, b ≠ a → H' b = H b) → H' a = some (.ins (cWalk K) dx (wkF m false)) → Q .non H'
abbrev n_init_Walk : List PySem.Str := ["self", "machine"]
theorem sc_init_Walk : FnScope n_init_Walk ["self", "machine"] d_init_Walk.scope := ⟨rfl, rfl, rfl, by decide +kernel, rfl, by decide +kernel, by decide +kernel⟩
theorem new_Walk (T : Tx w K mg) : New P w K mg base 1 "Walk" (spWalk K) := by
  refine new_mk (si := siWalk K) T.fd_init_Walk T.m_Walk T.g_Walk sc_init_Walk (fun _ _ _ _ _ _ us hl => match us, hl with | [_, _], _ => rfl) (fun _ _ _ _ h => sp2_len h) ?hs (fun f cdv A outer s H vs Q E hr h => ?_)
  rotate_left
  obtain ⟨_, _, rfl, a, dx, m, rfl, rfl, hA, q⟩ := h
  refine ⟨_, (pss_cons (ps_fld (pv 0) (pv 1) rfl)
      (pss_one (ps_fld (pv 0) pe_bl rfl))), ?_⟩
  refine ⟨_, rfl, _, rfl, r_put 0 hA (Nat.le_refl _) (by decide) T.c_Walk T.n_Walk_machine fun H1 h1 l1 k1 => ?_⟩
  refine ⟨_, rfl, r_put 1 h1 l1 (by decide) T.c_Walk T.n_Walk_is_over fun H2 h2 l2 k2 => ?_⟩
  refine q H2 (fun b hb => by rw [k2 b hb, k1 b hb]) (h2.trans (congrArg (fun z => some (HO.ins (cWalk K) dx z)) (by kernel_rfl)))
  · rintro vs H Q ⟨_, rfl, m, rfl, q⟩ a dx na nd ne
    refine ⟨_, _, rfl, a, dx, m, rfl, rfl, upd_same, fun H' kp h1 => ⟨rfl, ?_⟩⟩
    exact q H' a dx (made_same na nd fun b o h hb => (kp b hb).trans h) na h1
def spShelf (K : PySem.W.Frag) : Sp := sp0 fun H Q _ => ∀ H' a dx pl rl wl, Same H H' → H a = none → H pl = none → H rl = none → H wl = none → pl ≠ rl → pl ≠ wl → rl ≠ wl → H' a = some (.ins (cShelf K) dx (shF ⟨a, pl, rl, wl, []⟩)) → H' pl = some (.lst [.non, .non]) → H' rl = some (.lst [.non, .non]) → H' wl = some (.lst [.non, .non]) → Q (.ref a) H'
def siShelf (K : PySem.W.Frag) : Sp := sp1 fun s H Q _ => ∃ a dx, s = .ref a ∧ H a = some (.ins (cShelf K) dx []) ∧
  ∀ H' pl rl wl, (∀ b o, H b = some o → b ≠ a → H' b = some o) → H pl = none → H rl = none → H wl = none → pl ≠ rl → pl ≠ wl → rl ≠ wl → H' a = some (.ins (cShelf K) dx (shF ⟨a, pl, rl, wl, []⟩)) → H' pl = some (.lst [.non, .non]) → H' rl = some (.lst [.non, .non]) → H' wl = some (.lst [.non, .non]) → Q .non H'
abbrev n_init_Shelf : List PySem.Str := ["self"]
theorem sc_init_Shelf : FnScope n_init_Shelf ["self"] d_init_Shelf.scope := ⟨rfl, rfl, rfl, by decide +kernel, rfl, by decide +kernel, by decide +kernel⟩
theorem new_Shelf (T : Tx w K mg) : New P w K mg base 1 "Shelf" (spShelf K) := by
  refine new_mk (si := siShelf K) T.fd_init_Shelf T.m_Shelf T.g_Shelf sc_init_Shelf (fun _ _ _ _ _ _ us hl => match us, hl with | [_], _ => rfl) (fun _ _ _ _ h => sp1_len h) ?hs (fun f cdv A outer s H vs Q E hr h => ?_)
  rotate_left
  obtain ⟨_, rfl, a, dx, rfl, hA, q⟩ := h
  refine ⟨_, (pss_cons (ps_fld (pv 0) (pe_lst (pa_cons pe_non (pa_cons pe_non pa_nil))) rfl)
      (pss_cons (ps_fld (pv 0) (pe_lst (pa_cons pe_non (pa_cons pe_non pa_nil))) rfl)
      (pss_one (ps_fld (pv 0) (pe_lst (pa_cons pe_non (pa_cons pe_non pa_nil))) rfl)))), ?_⟩
  refine ⟨lineOf (by show 2 ≤ 1000; decide), fun pl npl => ?_⟩
  have np : pl ≠ a := fun z => by rw [z, hA] at npl; cases npl
  refine ⟨_, rfl, r_put 0 ((upd_ne (Ne.symm np)).trans hA) (Nat.le_refl _) (by decide) T.c_Shelf T.n_Shelf_programs fun H1 h1 l1 k1 => ?_⟩
  have hp1 : H1 pl = some (.lst [.non, .non]) := (k1 pl np).trans upd_same
  refine ⟨lineOf (by show 2 ≤ 1000; decide), fun rl nrl => ?_⟩
  have nr : rl ≠ a := fun z => by rw [z, h1] at nrl; cases nrl
  have nrp : rl ≠ pl := fun z => by rw [z, hp1] at nrl; cases nrl
  refine ⟨_, rfl, r_put 1 ((upd_ne (Ne.symm nr)).trans h1) l1 (by decide) T.c_Shelf T.n_Shelf_runs fun H2 h2 l2 k2 => ?_⟩
  have hp2 : H2 pl = some (.lst [.non, .non]) := (k2 pl np).trans ((upd_ne (Ne.symm nrp)).trans hp1)
  have hr2 : H2 rl = some (.lst [.non, .non]) := (k2 rl nr).trans upd_same
  refine ⟨lineOf (by show 2 ≤ 1000; decide), fun wl nwl => ?_⟩
  have nw : wl ≠ a := fun z => by rw [z, h2] at nwl; cases nwl
  have nwp : wl ≠ pl := fun z => by rw [z, hp2] at nwl; cases nwl
  have nwr : wl ≠ rl := fun z => by rw [z, hr2] at nwl; cases nwl
  refine ⟨_, rfl, r_put 2 ((upd_ne (Ne.symm nw)).trans h2) l2 (by decide) T.c_Shelf T.n_Shelf_walks fun H3 h3 l3 k3 => ?_⟩
  have hp3 : H3 pl = some (.lst [.non, .non]) := (k3 pl np).trans ((upd_ne (Ne.symm nwp)).trans hp2)
  have hr3 : H3 rl = some (.lst [.non, .non]) := (k3 rl nr).trans ((upd_ne (Ne.symm nwr)).trans hr2)
  have hw3 : H3 wl = some (.lst [.non, .non]) := (k3 wl nw).trans upd_same
  have e1 : ∀ b o, b ≠ a → H b = some o → H1 b = some o := fun b o hb h => (k1 b hb).trans (same_new npl _ _ h)
  have e2 : ∀ b o, b ≠ a → H1 b = some o → H2 b = some o := fun b o hb h => (k2 b hb).trans (same_new nrl _ _ h)
  have e3 : ∀ b o, b ≠ a → H2 b = some o → H3 b = some o := fun b o hb h => (k3 b hb).trans (same_new nwl _ _ h)
  have f1 : ∀ b, b ≠ a → H1 b = none → H b = none := fun b hb h => by
    rcases none_or (H b) with e | ⟨u, e⟩
    · exact e
    · rw [e1 b u hb e] at h
      cases h
  have f2 : ∀ b, b ≠ a → H2 b = none → H1 b = none := fun b hb h => by
    rcases none_or (H1 b) with e | ⟨u, e⟩
    · exact e
    · rw [e2 b u hb e] at h
      cases h
  refine q H3 pl rl wl (fun b o h hb => e3 b o hb (e2 b o hb (e1 b o hb h))) npl (f1 _ nr nrl) (f1 _ nw (f2 _ nw nwl)) (Ne.symm nrp) (Ne.symm nwp) (Ne.symm nwr) (h3.trans (congrArg (fun z => some (HO.ins (cShelf K) dx z)) (by kernel_rfl))) hp3 hr3 hw3
  · rintro vs H Q ⟨rfl, q⟩ a dx na nd ne
    refine ⟨_, rfl, a, dx, rfl, upd_same, fun H' pl rl wl k n1 n2 n3 m1 m2 m3 h1 h2 h3 h4 => ⟨rfl, ?_⟩⟩
    exact q H' a dx pl rl wl (made_same na nd k) na (made_none na nd n1) (made_none na nd n2) (made_none na nd n3) m1 m2 m3 h1 h2 h3 h4
abbrev n_race_value : List PySem.Str := ["race", "event", "thread", "variable"]
theorem sc_race_value : FnScope n_race_value ["race"] d_race_value.scope := ⟨rfl, rfl, rfl, by decide +kernel, rfl, by decide +kernel, by decide +kernel⟩
theorem c_race_value (T : Tx w K mg) : Cal (CX0) P w K mg base 4 "race_value" (sp1 fun x H Q _ => ∃ o, RcV H x o ∧ spMk K H (raceR o) Q) := by
  refine cal_mk T.fd_race_value T.g_race_value sc_race_value (fun _ _ _ _ _ _ us hl => match us, hl with | [_], _ => rfl) (fun _ _ _ _ h => sp1_len h) (fun f cdv A outer s H vs Q E hr h => ?_)
  obtain ⟨x, rfl, o, ho, q⟩ := h
  refine ⟨_, PSs.nox ((pss_cons (ps_if (pt_cmpR op_isN (pv 0) pe_non (nomark _)) (pss_one (ps_ret (pe_cal0 (c_null T) hr (by decide) rfl))) pss_nil)
      (pss_cons (ps_asg (pv 0) (pg_tup rfl (pgs_cons (pg_name (i := 1) sc_race_value.nd rfl (Or.inl rfl)) (pgs_cons (pg_name (i := 2) sc_race_value.nd rfl (Or.inl rfl)) (pgs_cons (pg_name (i := 3) sc_race_value.nd rfl (Or.inl rfl)) pgs_nil)))))
      (pss_one (ps_ret (pe_cal (c_record_of T) hr (by decide) rfl passC (pa_cons (pe_lst (pa_cons (pe_tup (pa_cons pe_str (pa_cons (pe_cal (c_integer T) hr (by decide) rfl passC (pa_cons (pv 1) pa_nil)) pa_nil))) (pa_cons (pe_tup (pa_cons pe_str (pa_cons (pe_cal (c_integer T) hr (by decide) rfl passC (pa_cons (pv 2) pa_nil)) pa_nil))) (pa_cons (pe_tup (pa_cons pe_str (pa_cons (pe_cal (c_integer T) hr (by decide) rfl passC (pa_cons (pv 3) pa_nil)) pa_nil))) pa_nil)))) pa_nil))))))), ?_⟩
  cases o with
  | none =>
    have ho : x = .non := ho
    subst ho
    exact ⟨_, rfl, rfl, _, rfl, if_t rfl ⟨rfl, q⟩⟩
  | some r =>
    obtain ⟨a, rfl, ha⟩ := ho
    refine ⟨_, rfl, rfl, _, rfl, if_f rfl ⟨_, rfl, a, _, rfl, SqT.of ha, rfl, _, _, rfl, _, _, rfl, _, _, rfl, rfl, ?_⟩⟩
    refine ⟨_, rfl, _, rfl, _, rfl, fun H1 x1 s1 v1 => ⟨lineOf (by show 2 ≤ 1000; decide), fun t1 n1 => ?_⟩⟩
    have c1 := same_new (o := .tup [.str "event", x1]) n1
    refine ⟨_, rfl, _, rfl, _, rfl, fun H2 x2 s2 v2 => ⟨lineOf (by show 2 ≤ 1000; decide), fun t2 n2 => ?_⟩⟩
    have c2 := same_new (o := .tup [.str "thread", x2]) n2
    refine ⟨_, rfl, _, rfl, _, rfl, fun H3 x3 s3 v3 => ⟨lineOf (by show 2 ≤ 1000; decide), fun t3 n3 => ⟨lineOf (by show 3 ≤ 1000; decide), fun la nla => ?_⟩⟩⟩
    have c3 := same_new (o := .tup [.str "variable", x3]) n3
    have c4 := same_new (o := .lst [.ref t1, .ref t2, .ref t3]) nla
    have r3 := c3.trans c4
    have r2 := c2.trans (s3.trans r3)
    have r1 := c1.trans (s2.trans r2)
    refine ⟨_, rfl, la, [t1, t2, t3], [("event", x1), ("thread", x2), ("variable", x3)], rfl, upd_same, .cons ((s2.trans r2) _ _ upd_same) (.cons ((s3.trans r3) _ _ upd_same) (.cons (c4 _ _ upd_same) .nil)), by show 3 ≤ 500; decide, fun e he => ?_, fun H4 y s4 hy => ?_⟩
    · simp only [List.mem_cons, List.not_mem_nil, or_false] at he
      rcases he with rfl | rfl | rfl <;> exact names_ok _ (by simp)
    · have p4 := s1.trans r1
      refine q H4 y (p4.trans s4) fun B sB => ?_
      refine hy B [.int (r.1 : Int), .int (r.2.1 : Int), .int (r.2.2 : Int)] (sB.trans p4) ?_
      refine ⟨x1, _, rfl, VAt.up (off_same r1) _ _ (v1 B sB), ?_⟩
      refine ⟨x2, _, rfl, VAt.up (off_same r2) _ _ (v2 B (sB.trans (s1.trans c1))), ?_⟩
      exact ⟨x3, _, rfl, VAt.up (off_same r3) _ _ (v3 B (sB.trans (s1.trans (c1.trans (s2.trans c2))))), rfl⟩
def spResult (K : PySem.W.Frag) : Sp := sp2 fun x y H Q _ => ∃ b F v, y = .bl b ∧ VAt K F v x ∧ Same F H ∧ ∀ H' z, Same H H' → (∀ F', Same F F' → Same (off H H') F' → VAt K F' (iterR v b) z) → Q z H'
abbrev n_result : List PySem.Str := ["value", "is_done"]
theorem sc_result : FnScope n_result ["value", "is_done"] d_result.scope := ⟨rfl, rfl, rfl, by decide +kernel, rfl, by decide +kernel, by decide +kernel⟩
theorem c_result (T : Tx w K mg) : Cal (CX0) P w K mg base 4 "result" (spResult K) := by
  refine cal_mk T.fd_result T.g_result sc_result (fun _ _ _ _ _ _ us hl => match us, hl with | [_, _], _ => rfl) (fun _ _ _ _ h => sp2_len h) (fun f cdv A outer s H vs Q E hr h => ?_)
  obtain ⟨x, _, rfl, b, F, v, rfl, hv, sF, q⟩ := h
  refine ⟨_, PSs.nox ((pss_one (ps_ret (pe_cal (c_record_of T) hr (by decide) rfl passC (pa_cons (pe_lst (pa_cons (pe_tup (pa_cons pe_str (pa_cons (pv 0) pa_nil))) (pa_cons (pe_tup (pa_cons pe_str (pa_cons (pe_cal (c_truth T) hr (by decide) rfl passC (pa_cons (pv 1) pa_nil)) pa_nil))) pa_nil))) pa_nil))))), ?_⟩
  refine ⟨_, rfl, lineOf (by show 2 ≤ 1000; decide), fun t1 n1 => ?_⟩
  have c1 := same_new (o := .tup [.str "value", x]) n1
  refine ⟨_, rfl, _, rfl, _, rfl, fun H2 x2 s2 v2 => ⟨lineOf (by show 2 ≤ 1000; decide), fun t2 n2 => ⟨lineOf (by show 2 ≤ 1000; decide), fun la nla => ?_⟩⟩⟩
  have c2 := same_new (o := .tup [.str "done", x2]) n2
  have c3 := same_new (o := .lst [.ref t1, .ref t2]) nla
  have r2 := c2.trans c3
  have p3 := c1.trans (s2.trans r2)
  refine ⟨_, rfl, la, [t1, t2], [("value", x), ("done", x2)], rfl, upd_same, .cons ((s2.trans r2) _ _ upd_same) (.cons (c3 _ _ upd_same) .nil), by show 2 ≤ 500; decide, fun e he => ?_, fun H4 y s4 hy => ?_⟩
  · simp only [List.mem_cons, List.not_mem_nil, or_false] at he
    rcases he with rfl | rfl <;> exact names_ok _ (by simp)
  · refine q H4 y (p3.trans s4) fun F' f1 f2 => ?_
    refine VAt.up (minus_out sF (p3.trans s4) f1 f2) _ _ (hy (minus H F) [v, .bool b] (minus_in.trans p3) ?_)
    refine ⟨x, _, rfl, VAt.up ((minus_sub sF).trans (off_same p3)) _ _ hv, ?_⟩
    exact ⟨x2, _, rfl, VAt.up (off_same r2) _ _ (v2 (minus H F) (minus_in.trans c1)), rfl⟩
def spRunIn (K : PySem.W.Frag) : Sp := sp2 fun u v H Q _ => ∃ A dx xs g ys y0 dy, ∃ r : Nat, ∃ z, u = .ref A.a ∧ H A.a = some (.ins (cShelf K) dx (shF A)) ∧ H A.rl = some (.lst xs) ∧ v = .ref g ∧ H g = some (.lst ys) ∧ ys[0]? = some (.ref y0) ∧ H y0 = some (.ins (cVal K) dy (vF 4 (natV r))) ∧ xs[r]? = some z ∧ Q z H
abbrev n_run_in : List PySem.Str := ["shelf", "rows"]
theorem sc_run_in : FnScope n_run_in ["shelf", "rows"] d_run_in.scope := ⟨rfl, rfl, rfl, by decide +kernel, rfl, by decide +kernel, by decide +kernel⟩
theorem c_run_in (T : Tx w K mg) : Cal (CX0) P w K mg base 1 "run_in" (spRunIn K) := by
  refine cal_mk T.fd_run_in T.g_run_in sc_run_in (fun _ _ _ _ _ _ us hl => match us, hl with | [_, _], _ => rfl) (fun _ _ _ _ h => sp2_len h) (fun f cdv A outer s H vs Q E hr h => ?_)
  obtain ⟨_, _, rfl, A, dx, xs, g, ys, y0, dy, r, z, rfl, hA, hx, rfl, hg, h0, hy, hz, q⟩ := h
  refine ⟨_, PSs.nox ((pss_one (ps_ret (pe_ix ix_list (pe_fld (pv 0) rfl) (pe_fld (pe_ix ix_list (pv 1) pe_int (fun _ _ => rfl)) rfl) (fun _ _ => rfl))))), ?_⟩
  exact ⟨_, rfl, r_fld hA T.c_Shelf T.n_Shelf_runs shF_runs ⟨_, rfl, r_atE (i := 0) (SqL.of hg) rfl h0 (r_fld hy T.c_Value T.n_Value_held vF_held (r_atE (i := r) (SqL.of hx) rfl hz q))⟩⟩
end
end CT


namespace CT
open PySem PySem.Spec PyProof.Rows L2
/-! ### what is handed out -/
section
open R7285d.Spec
theorem givenAll_map : ∀ l : List Plain, Rust.givenAll l = l.map Rust.given
  | [] => by rw [Rust.givenAll]; rfl
  | v :: l => by rw [Rust.givenAll, givenAll_map l]; rfl
theorem givenFields_map : ∀ l : List (R7285d.Spec.Units × Plain), Rust.givenFields l = l.map fun q => (q.1.map Rust.octetOf, Rust.given q.2)
  | [] => by rw [Rust.givenFields]; rfl
  | (n, v) :: l => by rw [Rust.givenFields, givenFields_map l]; rfl
theorem given_nat (n : Nat) : Rust.given (nat n) = .int (n : Int) := by
  show Rust.given (.num (RShim.F64.ofInt (n : Int))) = _
  rw [Rust.given]
  rfl
theorem given_int (z : Int) : Rust.given (int z) = .int z := by
  show Rust.given (.num (RShim.F64.ofInt z)) = _
  rw [Rust.given]
  rfl
theorem given_text (s : String) : Rust.given (text s) = .text (uo (units s)) := by
  show Rust.given (.str (units s)) = _
  rw [Rust.given]
  unfold Rust.givenText Rust.wideTold
  rfl
theorem given_arr (l : List Plain) : Rust.given (.arr l) = .list (l.map Rust.given) := by
  rw [Rust.given, givenAll_map]
theorem given_record (fs : List (String × Plain)) : Rust.given (record fs) = .record (fs.map fun f => (uo (units f.1), Rust.given f.2)) := by
  unfold record
  rw [Rust.given, givenFields_map, List.map_map]
  rfl
theorem given_ints (l : List Int) : Rust.given (R7285d.Spec.ints l) = intsR l := by
  unfold R7285d.Spec.ints intsR
  rw [given_arr, List.map_map]
  exact congrArg RWire.Value.list (List.map_congr_left fun z _ => given_int z)
theorem given_nats (l : List Nat) : Rust.given (nats l) = natsR l := by
  unfold nats natsR intsR
  rw [given_arr, List.map_map, List.map_map]
  exact congrArg RWire.Value.list (List.map_congr_left fun z _ => given_nat z)
theorem given_opt (o : Option Nat) : Rust.given (orNull nat o) = optR o := by
  cases o with
  | none =>
    show Rust.given .null = _
    rw [Rust.given]
    rfl
  | some n => exact given_nat n
theorem mode_txt (m : Mode) : uo (units m.name) = txt (modeS m) := by cases m <;> decide +kernel
def lit (q : String) : Prop := uo (units q) = txt (PySem.Str.ofString q)
theorem lits : ∀ q ∈ ["mode", "place", "registers", "printed", "needs", "clock", "events", "holder", "order", "threads", "shared", "locks", "queues", "event", "thread", "variable", "end", "length", "race", "value", "done", "open", "stuck", "ended"], lit q := by
  unfold lit
  decide +kernel
theorem given_thread (x : Thr) : Rust.given x.told = threadR x := by
  unfold R7285d.Spec.Thread.told threadR
  rw [given_record]
  show RWire.Value.record [(uo (units "mode"), Rust.given (text x.mode.name)), (uo (units "place"), Rust.given (nat x.pc)), (uo (units "registers"), Rust.given (R7285d.Spec.ints x.regs)), (uo (units "printed"), Rust.given (R7285d.Spec.ints x.out)), (uo (units "needs"), Rust.given (orNull nat x.need)), (uo (units "clock"), Rust.given (nat x.clock)), (uo (units "events"), Rust.given (nat x.count))] = _
  rw [given_text, mode_txt, given_nat, given_ints, given_ints, given_opt, given_nat, given_nat, show _ = _ from lits "mode" (by simp), show _ = _ from lits "place" (by simp), show _ = _ from lits "registers" (by simp), show _ = _ from lits "printed" (by simp), show _ = _ from lits "needs" (by simp), show _ = _ from lits "clock" (by simp), show _ = _ from lits "events" (by simp)]
  rfl
theorem given_lock (k : Lck) : Rust.given k.told = lockR k := by
  unfold R7285d.Spec.Lock.told lockR
  rw [given_record]
  show RWire.Value.record [(uo (units "holder"), Rust.given (orNull nat k.holder)), (uo (units "order"), Rust.given (nats k.order))] = _
  rw [given_opt, given_nats, show _ = _ from lits "holder" (by simp), show _ = _ from lits "order" (by simp)]
  rfl
def memNames : List PySem.Str := ["threads", "shared", "locks", "queues"]
theorem given_members (m : Mach) : (m.told.map fun f => (uo (units f.1), Rust.given f.2)) = (memNames.map txt).zip (membersR m) := by
  show [(uo (units "threads"), Rust.given (.arr (m.threads.map Thread.told))), (uo (units "shared"), Rust.given (R7285d.Spec.ints m.shared)), (uo (units "locks"), Rust.given (.arr (m.locks.map Lock.told))), (uo (units "queues"), Rust.given (.arr (m.queues.map nats)))] = _
  rw [given_arr, given_ints, given_arr, given_arr, List.map_map, List.map_map, List.map_map, show _ = _ from lits "threads" (by simp), show _ = _ from lits "shared" (by simp), show _ = _ from lits "locks" (by simp), show _ = _ from lits "queues" (by simp)]
  have e1 : (Rust.given ∘ Thread.told) = threadR := funext given_thread
  have e2 : (Rust.given ∘ Lock.told) = lockR := funext given_lock
  have e3 : (Rust.given ∘ nats) = natsR := funext given_nats
  rw [e1, e2, e3]
  rfl
theorem given_machine (m : Mach) : Rust.given (record m.told) = .record ((memNames.map txt).zip (membersR m)) := by
  rw [given_record, given_members]
def runNames : List PySem.Str := ["threads", "shared", "locks", "queues", "events"]
theorem given_run (s : RunState) : Rust.given s.told = .record ((runNames.map txt).zip (membersR s.machine ++ [.int (s.events : Int)])) := by
  unfold R7285d.Spec.RunState.told
  rw [given_record, List.map_append, given_members]
  show RWire.Value.record (_ ++ [(uo (units "events"), Rust.given (nat s.events))]) = _
  rw [given_nat, show _ = _ from lits "events" (by simp)]
  rfl
theorem given_iter (v : Plain) (b : Bool) : Rust.given (iteration v b) = iterR (Rust.given v) b := by
  unfold R7285d.Spec.iteration iterR
  rw [given_record]
  show RWire.Value.record [(uo (units "value"), Rust.given v), (uo (units "done"), Rust.given (.bool b))] = _
  rw [show _ = _ from lits "value" (by simp), show _ = _ from lits "done" (by simp), show Rust.given (.bool b) = .bool b by rw [Rust.given]]
  rfl
theorem given_undef : Rust.given .undef = .nothing := by rw [Rust.given]
theorem text_back (u : RWire.Text) : (u.map Rust.unitOf).map Rust.octetOf = u := by
  rw [List.map_map]
  have : Rust.octetOf ∘ Rust.unitOf = id := funext unit_octet
  rw [this, List.map_id]
mutual
/-- what is handed out of a value that was handed in -/
theorem given_taken : ∀ v : RWire.Value, goodV v → Rust.given (Rust.taken v) = v
  | .nothing, g => by rw [Rust.taken, Rust.given]
  | .null, g => by rw [Rust.taken, Rust.given]
  | .bool b, g => by rw [Rust.taken, Rust.given]
  | .int i, g => by rw [Rust.taken, Rust.given]; rfl
  | .big i, g => by cases g.1
  | .text u, g => by
    rw [Rust.taken, Rust.given]
    show RWire.Value.text ((u.map Rust.unitOf).map Rust.octetOf) = _
    rw [text_back]
  | .octets u, g => by cases g.2.1
  | .wide u, g => by cases g.2.2
  | .list l, g => by
    rw [Rust.taken, Rust.given, given_takenL l (goodL_of (by simpa [RWire.noBig] using g.1) (by simpa [RWire.noOctets] using g.2.1) (by simpa [RWire.noWide] using g.2.2))]
  | .record l, g => by
    rw [Rust.taken, Rust.given, given_takenE l (goodE_of (by simpa [RWire.noBig] using g.1) (by simpa [RWire.noOctets] using g.2.1) (by simpa [RWire.noWide] using g.2.2))]
theorem given_takenL : ∀ l : List RWire.Value, goodL l → Rust.givenAll (Rust.takenAll l) = l
  | [], g => by rw [Rust.takenAll, Rust.givenAll]
  | v :: l, g => by rw [Rust.takenAll, Rust.givenAll, given_taken v (g v (List.mem_cons_self ..)), given_takenL l fun u hu => g u (List.mem_cons_of_mem _ hu)]
theorem given_takenE : ∀ l : List (RWire.Text × RWire.Value), goodE l → Rust.givenFields (Rust.takenFields l) = l
  | [], g => by rw [Rust.takenFields, Rust.givenFields]
  | (n, v) :: l, g => by rw [Rust.takenFields, Rust.givenFields, text_back, given_taken v (g _ (List.mem_cons_self ..)), given_takenE l fun u hu => g u (List.mem_cons_of_mem _ hu)]
end
end
/-! ### the arguments of a call -/
theorem slot_taken {v : RWire.Value} (g : goodV v) {s : Nat} (h : Rust.slotOf 1 (Rust.taken v) = some s) : v = .int (s : Int) ∧ s ≤ 1 := by
  cases v with
  | int i =>
    rw [Rust.taken] at h
    have h : ((some i : Option Int).bind fun k => if (decide (0 ≤ k) && Nat.ble k.toNat 1) = true then some k.toNat else none) = some s := h
    have h : (if (decide (0 ≤ i) && Nat.ble i.toNat 1) = true then some i.toNat else none) = some s := h
    split at h
    · rename_i c
      cases h
      simp only [Bool.and_eq_true, decide_eq_true_eq] at c
      have := Nat.le_of_ble_eq_true c.2
      refine ⟨?_, this⟩
      congr 1
      omega
    · cases h
  | octets u => cases g.2.1
  | _ => rw [Rust.taken] at h; cases h
theorem dec_A {f : Nat → R7285d.Spec.Plain → R7285d.Spec.Call} {l : List RWire.Value} {c : R7285d.Spec.Call} (h : Rust.taking 2 (Rust.takenAll l) ((Rust.slotAt (Rust.takenAll l) 0 1).bind fun s0 => some (f s0 (Rust.argAt (Rust.takenAll l) 1))) = some c) (hl : l.length = 2) (g : goodL l) : ∃ (s : Nat) (v : RWire.Value), l = [.int (s : Int), v] ∧ s ≤ 1 ∧ goodV v ∧ c = f s (Rust.taken v) := by
  rw [takenAll_map] at h
  match l, hl with
  | [u, v], _ =>
    have h : (Rust.slotOf 1 (Rust.taken u)).bind (fun s0 => some (f s0 (Rust.taken v))) = some c := h
    cases e : Rust.slotOf 1 (Rust.taken u) with
    | none => rw [e] at h; cases h
    | some s =>
      rw [e] at h
      cases h
      obtain ⟨e1, e2⟩ := slot_taken (g u (by simp)) e
      exact ⟨s, v, by rw [e1], e2, g v (by simp), rfl⟩
theorem dec_B {f : Nat → Nat → R7285d.Spec.Call} {l : List RWire.Value} {c : R7285d.Spec.Call} (h : Rust.taking 2 (Rust.takenAll l) ((Rust.slotAt (Rust.takenAll l) 0 1).bind fun s0 => (Rust.slotAt (Rust.takenAll l) 1 1).bind fun s1 => some (f s0 s1)) = some c) (hl : l.length = 2) (g : goodL l) : ∃ s t : Nat, l = [.int (s : Int), .int (t : Int)] ∧ s ≤ 1 ∧ t ≤ 1 ∧ c = f s t := by
  rw [takenAll_map] at h
  match l, hl with
  | [u, v], _ =>
    have h : (Rust.slotOf 1 (Rust.taken u)).bind (fun s0 => (Rust.slotOf 1 (Rust.taken v)).bind fun s1 => some (f s0 s1)) = some c := h
    cases e : Rust.slotOf 1 (Rust.taken u) with
    | none => rw [e] at h; cases h
    | some s =>
      rw [e] at h
      have h : (Rust.slotOf 1 (Rust.taken v)).bind (fun s1 => some (f s s1)) = some c := h
      cases e' : Rust.slotOf 1 (Rust.taken v) with
      | none => rw [e'] at h; cases h
      | some t =>
        rw [e'] at h
        cases h
        obtain ⟨e1, e2⟩ := slot_taken (g u (by simp)) e
        obtain ⟨e3, e4⟩ := slot_taken (g v (by simp)) e'
        exact ⟨s, t, by rw [e1, e3], e2, e4, rfl⟩
theorem dec_C {f : Nat → R7285d.Spec.Call} {l : List RWire.Value} {c : R7285d.Spec.Call} (h : Rust.taking 1 (Rust.takenAll l) ((Rust.slotAt (Rust.takenAll l) 0 1).bind fun s0 => some (f s0)) = some c) (hl : l.length = 1) (g : goodL l) : ∃ s : Nat, l = [.int (s : Int)] ∧ s ≤ 1 ∧ c = f s := by
  rw [takenAll_map] at h
  match l, hl with
  | [u], _ =>
    have h : (Rust.slotOf 1 (Rust.taken u)).bind (fun s0 => some (f s0)) = some c := h
    cases e : Rust.slotOf 1 (Rust.taken u) with
    | none => rw [e] at h; cases h
    | some s =>
      rw [e] at h
      cases h
      obtain ⟨e1, e2⟩ := slot_taken (g u (by simp)) e
      exact ⟨s, by rw [e1], e2, rfl⟩
section
variable {K : PySem.W.Frag} {F : Hp} {xs : List V}
theorem arg_0 {s : Nat} {r : List RWire.Value} (h : VMany K F (.int (s : Int) :: r) xs) : ∃ a d, xs[0]? = some (.ref a) ∧ F a = some (.ins (cVal K) d (vF 4 (natV s))) := by
  obtain ⟨x, ys, rfl, ⟨a, d, rfl, ha⟩, _⟩ := h
  exact ⟨a, d, rfl, ha⟩
theorem arg_1 {u v : RWire.Value} {r : List RWire.Value} (h : VMany K F (u :: v :: r) xs) : ∃ x, xs[1]? = some x ∧ VAt K F v x := by
  obtain ⟨x, ys, rfl, _, y, zs, rfl, h, _⟩ := h
  exact ⟨y, rfl, h⟩
end
theorem argument_bt {v : RWire.Value} (g : goodV v) {name : String} {a b : Nat} : R7285d.Spec.argument name a b (Rust.taken v) = if isBt v a b = true then natO v else .error ⟨.typeError, R7285d.Spec.units name ++ R7285d.Spec.units " must be an integer from " ++ R7285d.Spec.decimal a ++ R7285d.Spec.units " to " ++ R7285d.Spec.decimal b⟩ := by
  unfold R7285d.Spec.argument
  rw [integerIn_bt g]
  by_cases c : isBt v a b = true
  · rw [if_pos c, if_pos c]
    cases v <;> first | rfl | cases c
  · rw [if_neg c, if_neg c]
/-- a call that is refused changes nothing -/
theorem fail_same {w : SW} {c : R7285d.Spec.Call} {e : R7285d.Spec.Err} (h : (R7285d.Spec.step w c).2 = .fail e) : (R7285d.Spec.step w c).1 = w := by
  cases c with
  | programNew p x =>
    have h : (R7285d.Spec.storeProgram w p (R7285d.Spec.programOf x)).2 = _ := h
    show (R7285d.Spec.storeProgram w p (R7285d.Spec.programOf x)).1 = _
    cases r : R7285d.Spec.programOf x with
    | error e => rfl
    | ok g => rw [r] at h; cases h
  | programOne p x =>
    show (R7285d.Spec.onProgram w p _).1 = w
    unfold R7285d.Spec.onProgram
    split <;> rfl
  | programAfter p x =>
    show (R7285d.Spec.onProgram w p _).1 = w
    unfold R7285d.Spec.onProgram
    split <;> rfl
  | runNew r p =>
    unfold R7285d.Spec.step at h ⊢
    simp only at h ⊢
    split at h
    · cases h
    · rfl
  | runFork r p =>
    unfold R7285d.Spec.step at h ⊢
    simp only at h ⊢
    split at h
    · cases h
    · rfl
  | runState r =>
    show (R7285d.Spec.onRun w r _).1 = w
    unfold R7285d.Spec.onRun
    split <;> rfl
  | runChoices r =>
    show (R7285d.Spec.onRun w r _).1 = w
    unfold R7285d.Spec.onRun
    split <;> rfl
  | runConflicts r =>
    show (R7285d.Spec.onRun w r _).1 = w
    unfold R7285d.Spec.onRun
    split <;> rfl
  | runStep r x =>
    have h : (R7285d.Spec.changeRun w r fun s => R7285d.Spec.stepFn s x).2 = _ := h
    show (R7285d.Spec.changeRun w r fun s => R7285d.Spec.stepFn s x).1 = w
    unfold R7285d.Spec.changeRun at h ⊢
    split at h
    · rfl
    · split at h
      · rfl
      · split at h
        · cases h
        · rfl
  | runRejoin r =>
    have h : (R7285d.Spec.changeRun w r R7285d.Spec.rejoinFn).2 = _ := h
    show (R7285d.Spec.changeRun w r R7285d.Spec.rejoinFn).1 = w
    unfold R7285d.Spec.changeRun at h ⊢
    split at h
    · rfl
    · split at h
      · rfl
      · split at h
        · cases h
        · rfl
  | walkNew v r =>
    unfold R7285d.Spec.step at h ⊢
    simp only at h ⊢
    split at h
    · cases h
    · rfl
  | walkNext v =>
    have h : (R7285d.Spec.nextOfWalk w v).2 = _ := h
    show (R7285d.Spec.nextOfWalk w v).1 = w
    unfold R7285d.Spec.nextOfWalk at h ⊢
    split at h
    · rfl
    · rfl
    · split at h
      · rfl
      · split at h
        · cases h
        · cases h
  | walkReturn v x =>
    unfold R7285d.Spec.step at h ⊢
    simp only at h ⊢
    split at h
    · cases h
    · rfl
end CT

namespace CT
open PySem PySem.Spec PyProof.Rows L2
/-! ### the doors -/
def manyN : Nat → Nat
  | 5 => 1
  | 6 => 1
  | 7 => 1
  | 9 => 1
  | 11 => 1
  | _ => 2
structure DoorQ (K : PySem.W.Frag) (H : Hp) (S : DP → Hp) (A : DLay) (w : SW) (n : Nat) (c : R7285d.Spec.Call) (Q : VK) (E : XK) : Prop where
  ok : ∀ p, (R7285d.Spec.step w c).2 = .ret p → ∀ H' S' A' x, A'.a = A.a → DStp H S H' S' → DAt K H' S' A' (R7285d.Spec.step w c).1 (n + 1) → VAt K (rest H' S') (Rust.given p) x → Q x H'
  no : ∀ e, (R7285d.Spec.step w c).2 = .fail e → RefuE K H e E
theorem DoorQ.ret {K : PySem.W.Frag} {H : Hp} {S : DP → Hp} {A : DLay} {w w' : SW} {n : Nat} {c : R7285d.Spec.Call} {Q : VK} {E : XK} {p : R7285d.Spec.Plain} (q : DoorQ K H S A w n c Q E) (h : R7285d.Spec.step w c = (w', .ret p)) {H' : Hp} {S' : DP → Hp} {A' : DLay} {x : V} (e : A'.a = A.a) (s : DStp H S H' S') (D : DAt K H' S' A' w' (n + 1)) (v : VAt K (rest H' S') (Rust.given p) x) : Q x H' :=
  q.ok p (by rw [h]) H' S' A' x e s (by rw [h]; exact D) v
/-- nothing has changed but for new objects -/
theorem DoorQ.retS {K : PySem.W.Frag} {H : Hp} {S : DP → Hp} {A : DLay} {w : SW} {n : Nat} {c : R7285d.Spec.Call} {Q : VK} {E : XK} {p : R7285d.Spec.Plain} (q : DoorQ K H S A w n c Q E) (D : DAt K H S A w n) (h : R7285d.Spec.step w c = (w, .ret p)) {H' : Hp} {x : V} (s : Same H H') (v : VAt K (off H H') (Rust.given p) x) : Q x H' :=
  q.ret h rfl (DStp.same s) ((D.same s).more (Nat.le_succ _)) (VAt.up (off_rest D.fam) _ _ v)
def spDoor (K : PySem.W.Frag) (d : Nat) : Sp := sp2 fun u v H Q E => ∃ S A w n g l xs c, u = .ref A.a ∧ v = .ref g ∧ DAt K H S A w n ∧ 10000 ≤ n ∧ n < 900000 ∧ rest H S g = some (.lst xs) ∧ VMany K (rest H S) l xs ∧ goodL l ∧ l.length = manyN d ∧ Rust.calls0 d (Rust.takenAll l) = some c ∧ R7285d.Spec.within w c = true ∧ DoorQ K H S A w n c Q E
section
variable {K : PySem.W.Frag} {H : Hp} {S : DP → Hp} {A : DLay} {w : SW} {n : Nat}
theorem DAt.plAt (D : DAt K H S A w n) : ∃ xs, H A.pl = some (.lst xs) ∧ xs.length = 2 := by
  obtain ⟨xs, h1, h2⟩ := D.ps
  exact ⟨xs, D.fam.sub _ _ _ h1, by rw [h2.len, D.lp]⟩
theorem DAt.rlAt (D : DAt K H S A w n) : ∃ xs, H A.rl = some (.lst xs) ∧ xs.length = 2 := by
  obtain ⟨xs, h1, h2⟩ := D.rs
  exact ⟨xs, D.fam.sub _ _ _ h1, by rw [h2.len, D.lr]⟩
theorem DAt.wlAt (D : DAt K H S A w n) : ∃ xs, H A.wl = some (.lst xs) ∧ xs.length = 2 := by
  obtain ⟨xs, h1, h2, _⟩ := D.ws
  exact ⟨xs, D.fam.sub _ _ _ h1, by rw [h2, D.lw]⟩
theorem has_prog {p : Nat} (h : R7285d.Spec.hasProgram w p = true) : ∃ g, R7285d.Spec.programAt w p = some g := by
  unfold R7285d.Spec.hasProgram at h
  exact Option.isSome_iff_exists.mp (Bool.and_eq_true_iff.mp h).2
theorem has_run {p : Nat} (h : R7285d.Spec.hasRun w p = true) : ∃ g, R7285d.Spec.runAt w p = some g := by
  unfold R7285d.Spec.hasRun at h
  exact Option.isSome_iff_exists.mp (Bool.and_eq_true_iff.mp h).2
theorem has_walk {p : Nat} (h : R7285d.Spec.hasWalk w p = true) : ∃ g, R7285d.Spec.walkAt w p = some g := by
  unfold R7285d.Spec.hasWalk at h
  exact Option.isSome_iff_exists.mp (Bool.and_eq_true_iff.mp h).2
theorem bt_nat {v : RWire.Value} {a b : Nat} (h : isBt v a b = true) : ∃ k : Nat, v = .int (k : Int) ∧ a ≤ k ∧ k ≤ b := by
  cases v with
  | int i =>
    have h : (decide ((a : Int) ≤ i) && decide (i ≤ (b : Int))) = true := h
    simp only [Bool.and_eq_true, decide_eq_true_eq] at h
    exact ⟨i.toNat, by congr 1; omega, by omega, by omega⟩
  | _ => cases h
end
def raceO (g : Prog) (k : Nat) : Option (Nat × Nat × Nat) := (g.race k).map fun x => (x.1, x.2, (g.access (g.one x.1) x.2).getD 0)
theorem RaceV.rc {p : Prog} {H : Hp} {r : V} {k : Nat} (h : RaceV p H r (p.race k)) : RcV H r (raceO p k) := by
  unfold raceO
  cases e : p.race k with
  | none => rw [e] at h; exact h
  | some x =>
    rw [e] at h
    obtain ⟨a, v, h1, h2, h3⟩ := h
    refine ⟨a, h1, ?_⟩
    show H a = some (.tup [natV x.1, natV x.2, natV ((p.access (p.one x.1) x.2).getD 0)])
    rw [h3]
    exact h2
def oneR (g : Prog) (k : Nat) : RWire.Value := .record (([("end" : PySem.Str), "length", "race"].map txt).zip [.text (txt (endS (g.one k) (g.length k))), optR (g.length k), raceR (raceO g k)])
section
open R7285d.Spec
theorem end_txt (m : Mach) (o : Option Nat) : uo (units (endOf m o)) = txt (endS m o) := by
  cases o with
  | none => exact lits "open" (by simp)
  | some n =>
    unfold endOf endS
    simp only
    split
    · exact lits "stuck" (by simp)
    · exact lits "ended" (by simp)
theorem given_one {g : Prog} {k : Nat} (h1 : 1 ≤ k) (h2 : k ≤ 5000) (ha : ∀ x, g.race k = some x → ∃ v, g.access (g.one x.1) x.2 = some v) : ∃ p, oneFn g (Rust.taken (.int (k : Int))) = .ok p ∧ Rust.given p = oneR g k := by
  have ab := argument_bt (v := .int (k : Int)) ⟨rfl, rfl, rfl⟩ (name := "limit") (a := 1) (b := 5000)
  rw [if_pos (show isBt (.int (k : Int)) ((1 : Nat) : Int) ((5000 : Nat) : Int) = true by
    show (decide (((1 : Nat) : Int) ≤ (k : Int)) && decide ((k : Int) ≤ ((5000 : Nat) : Int))) = true
    simp only [Bool.and_eq_true, decide_eq_true_eq]
    omega)] at ab
  have ab : argument "limit" 1 5000 (Rust.taken (.int (k : Int))) = .ok k := ab
  refine ⟨_, by unfold oneFn; rw [ab]; rfl, ?_⟩
  rw [given_record]
  show RWire.Value.record [(uo (units "end"), Rust.given (text (endOf (g.one k) (g.length k)))), (uo (units "length"), Rust.given (orNull nat (g.length k))), (uo (units "race"), Rust.given (orNull (fun q : Nat × Nat => record [("event", nat q.1), ("thread", nat q.2), ("variable", orNull nat (g.access (g.one q.1) q.2))]) (g.race k)))] = _
  rw [given_text, end_txt, given_opt, show _ = _ from lits "end" (by simp), show _ = _ from lits "length" (by simp), show _ = _ from lits "race" (by simp)]
  have er : Rust.given (orNull (fun q : Nat × Nat => record [("event", nat q.1), ("thread", nat q.2), ("variable", orNull nat (g.access (g.one q.1) q.2))]) (g.race k)) = raceR (raceO g k) := by
    unfold raceO
    cases e : g.race k with
    | none =>
      show Rust.given .null = _
      rw [Rust.given]
      rfl
    | some x =>
      obtain ⟨v, hv⟩ := ha x e
      show Rust.given (record [("event", nat x.1), ("thread", nat x.2), ("variable", orNull nat (g.access (g.one x.1) x.2))]) = _
      rw [given_record]
      show RWire.Value.record [(uo (units "event"), Rust.given (nat x.1)), (uo (units "thread"), Rust.given (nat x.2)), (uo (units "variable"), Rust.given (orNull nat (g.access (g.one x.1) x.2)))] = _
      rw [given_nat, given_nat, given_opt, hv, show _ = _ from lits "event" (by simp), show _ = _ from lits "thread" (by simp), show _ = _ from lits "variable" (by simp)]
      show _ = raceR (some (x.1, x.2, (g.access (g.one x.1) x.2).getD 0))
      rw [hv]
      rfl
  rw [er]
  rfl
theorem given_after {g : Prog} {k : Nat} (h2 : k ≤ 5000) : ∃ p, afterFn g (Rust.taken (.int (k : Int))) = .ok p ∧ Rust.given p = .record ((memNames.map txt).zip (membersR (g.one k))) := by
  have ab := argument_bt (v := .int (k : Int)) ⟨rfl, rfl, rfl⟩ (name := "events") (a := 0) (b := 5000)
  rw [if_pos (show isBt (.int (k : Int)) ((0 : Nat) : Int) ((5000 : Nat) : Int) = true by
    show (decide (((0 : Nat) : Int) ≤ (k : Int)) && decide ((k : Int) ≤ ((5000 : Nat) : Int))) = true
    simp only [Bool.and_eq_true, decide_eq_true_eq]
    omega)] at ab
  have ab : argument "events" 0 5000 (Rust.taken (.int (k : Int))) = .ok k := ab
  exact ⟨_, by unfold afterFn; rw [ab]; rfl, given_machine _⟩
theorem step_one {w : SW} {p : Nat} {g : Prog} {x : Plain} (h : programAt w p = some g) : step w (.programOne p x) = (w, outcome id (oneFn g x)) := by
  show onProgram w p _ = _
  unfold onProgram
  rw [h]
theorem step_after {w : SW} {p : Nat} {g : Prog} {x : Plain} (h : programAt w p = some g) : step w (.programAfter p x) = (w, outcome id (afterFn g x)) := by
  show onProgram w p _ = _
  unfold onProgram
  rw [h]
theorem endS_ok (m : Mach) (o : Option Nat) : (endS m o).cps.size ≤ 1000 ∧ byteS (endS m o) := by
  cases o with
  | none => exact (by decide +kernel : (PySem.Str.ofString "open").cps.size ≤ 1000 ∧ byteS (PySem.Str.ofString "open"))
  | some n =>
    unfold endS
    simp only
    split
    · exact (by decide +kernel : (PySem.Str.ofString "stuck").cps.size ≤ 1000 ∧ byteS (PySem.Str.ofString "stuck"))
    · exact (by decide +kernel : (PySem.Str.ofString "ended").cps.size ≤ 1000 ∧ byteS (PySem.Str.ofString "ended"))
end
section
variable {P : Program} {w : World} {K : PySem.W.Frag} {mg : PySem.Str → Option Value} {base : Heap}
abbrev n_program_new : List PySem.Str := ["shelf", "rows"]
theorem sc_program_new : FnScope n_program_new ["shelf", "rows"] d_program_new.scope := ⟨rfl, rfl, rfl, by decide +kernel, rfl, by decide +kernel, by decide +kernel⟩
theorem c_program_new (T : Tx w K mg) : Cal (XN P w) P w K mg base 8 "program_new" (spDoor K 0) := by
  refine cal_mk T.fd_program_new T.g_program_new sc_program_new (fun _ _ _ _ _ _ us hl => match us, hl with | [_, _], _ => rfl) (fun _ _ _ _ h => sp2_len h) (fun f cdv A outer s H vs Q E hr h => ?_)
  obtain ⟨_, _, rfl, S, Ad, wd, n, g, l, xs, c, rfl, rfl, D, n1, n2, hg, hv, gl, ll, hc, hw, q⟩ := h
  refine ⟨_, (pss_cons (ps_asg (pe_cal (c_program_of T) hr (by decide) rfl passX (pa_cons (pe_ix ix_list (pv 1) pe_int (fun _ _ => rfl)) pa_nil)) (pg_sub (pe_fld (pv 0) rfl) (pe_fld (pe_ix ix_list (pv 1) pe_int (fun _ _ => rfl)) rfl) set_list))
      (pss_one (ps_ret (pe_cal0 (c_nothing T) hr (by decide) rfl)))), ?_⟩
  obtain ⟨s0, v1, rfl, ls0, g1, rfl⟩ := dec_A (f := R7285d.Spec.Call.programNew) hc ll gl
  obtain ⟨x1, e1, hx1⟩ := arg_1 hv
  obtain ⟨a0, d0, e0, ha0⟩ := arg_0 hv
  obtain ⟨dS, hS⟩ := D.shelfAt
  obtain ⟨ps, hps, lps⟩ := D.plAt
  refine ⟨_, rfl, r_atE (i := 1) (SqL.of (rest_in _ _ hg)) rfl e1 ⟨_, rfl, rest H S, v1, hx1, g1, rest_in, ?_⟩⟩
  refine out_by (fun gp hp => ?_) (fun e hp => ?_)
  · intro H1 pa crs s1 npa fit pat
    have D1 := D.same s1
    refine ⟨_, rfl, r_fld (s1 _ _ hS) T.c_Shelf T.n_Shelf_programs shF_programs ⟨_, rfl, r_atE (i := 0) (SqL.of (s1 _ _ (rest_in _ _ hg))) rfl e0 (r_fld (s1 _ _ (rest_in _ _ ha0)) T.c_Value T.n_Value_held vF_held ⟨_, _, _, s0, rfl, rfl, s1 _ _ hps, ixN_nat (by omega), ?_⟩)⟩⟩
    obtain ⟨S2, st2, D2⟩ := D1.wrProg (p := s0) (s1 _ _ hps) (pat.up (off_rest D.fam)) fit
    refine ⟨rfl, fun H3 x s3 hx => ?_⟩
    refine q.ret (w' := { wd with programs := wd.programs.set s0 (some gp) }) (p := .undef) ?_ (S' := S2) (A' := Ad) rfl ((DStp.same s1).trans (st2.trans (DStp.same s3))) ((D2.same s3).more (by omega)) ?_
    · show R7285d.Spec.storeProgram wd s0 (R7285d.Spec.programOf (Rust.taken v1)) = _
      rw [hp]
      rfl
    · rw [given_undef]
      exact VAt.up (off_rest D2.fam) _ _ (hx _ (Same.refl _))
  · refine q.no e ?_
    show (R7285d.Spec.storeProgram wd s0 (R7285d.Spec.programOf (Rust.taken v1))).2 = _
    rw [hp]
    rfl
abbrev n_program_one : List PySem.Str := ["shelf", "rows", "words", "found", "head"]
theorem sc_program_one : FnScope n_program_one ["shelf", "rows"] d_program_one.scope := ⟨rfl, rfl, rfl, by decide +kernel, rfl, by decide +kernel, by decide +kernel⟩
theorem c_program_one (T : Tx w K mg) : Cal (XN P w) P w K mg base 7 "program_one" (spDoor K 1) := by
  refine cal_mk T.fd_program_one T.g_program_one sc_program_one (fun _ _ _ _ _ _ us hl => match us, hl with | [_, _], _ => rfl) (fun _ _ _ _ h => sp2_len h) (fun f cdv A outer s H vs Q E hr h => ?_)
  obtain ⟨_, _, rfl, S, Ad, wd, n, g, l, xs, c, rfl, rfl, D, n1, n2, hg, hv, gl, ll, hc, hw, q⟩ := h
  refine ⟨_, (pss_cons (ps_set (i := 2) sc_program_one.nd rfl (Or.inl rfl) pe_str)
      (pss_cons (ps_expr (pe_cal (c_demand T) hr (by decide) rfl passX (pa_cons (pe_cal (c_is_between T) hr (by decide) rfl passC (pa_cons (pe_ix ix_list (pv 1) pe_int (fun _ _ => rfl)) (pa_cons pe_int (pa_cons (pe_gi T.i_MOST_EVENTS rfl) pa_nil)))) (pa_cons (pe_gi T.i_WRONG_KIND rfl) (pa_cons (pv 2) pa_nil)))))
      (pss_cons (ps_set (i := 3) sc_program_one.nd rfl (Or.inl rfl) (pe_cal (c_one_run T) hr (by decide) rfl passC (pa_cons (pe_ix ix_list (pe_fld (pv 0) rfl) (pe_fld (pe_ix ix_list (pv 1) pe_int (fun _ _ => rfl)) rfl) (fun _ _ => rfl)) (pa_cons (pe_fld (pe_ix ix_list (pv 1) pe_int (fun _ _ => rfl)) rfl) pa_nil))))
      (pss_cons (ps_set (i := 4) sc_program_one.nd rfl (Or.inl rfl) (pe_lst (pa_cons (pe_tup (pa_cons pe_str (pa_cons (pe_cal (c_text_of T) hr (by decide) rfl passC (pa_cons (pe_fld (pv 3) rfl) pa_nil)) pa_nil))) (pa_cons (pe_tup (pa_cons pe_str (pa_cons (pe_cal (c_optional T) hr (by decide) rfl passC (pa_cons (pe_fld (pv 3) rfl) pa_nil)) pa_nil))) pa_nil))))
      (pss_one (ps_ret (pe_cal (c_record_of T) hr (by decide) rfl passC (pa_cons (pe_op op_cat (pv 4) (pe_lst (pa_cons (pe_tup (pa_cons pe_str (pa_cons (pe_cal (c_race_value T) hr (by decide) rfl passC (pa_cons (pe_fld (pv 3) rfl) pa_nil)) pa_nil))) pa_nil))) pa_nil)))))))), ?_⟩
  obtain ⟨s0, v1, rfl, ls0, g1, rfl⟩ := dec_A (f := R7285d.Spec.Call.programOne) hc ll gl
  obtain ⟨x1, e1, hx1⟩ := arg_1 hv
  obtain ⟨a0, d0, e0, ha0⟩ := arg_0 hv
  obtain ⟨dS, hS⟩ := D.shelfAt
  obtain ⟨gp, hgp⟩ := has_prog (Bool.and_eq_true_iff.mp (show (R7285d.Spec.hasProgram wd s0 && _) = true from hw)).1
  obtain ⟨ps, pa, crs, hps, eps, pat, fit⟩ := D.progAt hgp
  have sg := step_one (x := Rust.taken v1) hgp
  have hG := rest_in _ _ hg
  refine ⟨_, rfl, r_atE (i := 1) (SqL.of hG) rfl e1 ⟨_, _, _, rfl, rest H S, v1, 1, 5000, hx1, rest_in, rfl, rfl, ?_⟩⟩
  refine ⟨_, rfl, _, _, _, rfl, isBt v1 1 5000, 1, "limit must be an integer from 1 to 5000", rfl, rfl, rfl, by decide +kernel, by decide +kernel, fun hb => ?_, fun hb => ?_⟩
  · obtain ⟨k, rfl, k1, k2⟩ := bt_nat (a := 1) (b := 5000) hb
    obtain ⟨b1, db, rfl, hb1⟩ := hx1
    refine ⟨_, rfl, r_fld hS T.c_Shelf T.n_Shelf_programs shF_programs ⟨_, rfl, r_atE (i := 0) (SqL.of hG) rfl e0 (r_fld (rest_in _ _ ha0) T.c_Value T.n_Value_held vF_held (r_atE (i := s0) (SqL.of hps) rfl eps
      ⟨_, rfl, r_atE (i := 1) (SqL.of hG) rfl e1 (r_fld (rest_in _ _ hb1) T.c_Value T.n_Value_held vF_held ⟨_, _, rfl, pa, gp, crs, k, rfl, rfl, pat.up rest_in, fit, k2, fun H1 oa od rv s1 hO hR => ?_⟩)⟩))⟩⟩
    obtain ⟨m1, m2⟩ := endS_ok (gp.one k) (gp.length k)
    refine ⟨_, rfl, r_fld hO T.c_Outcome T.n_Outcome_ending oF_ending ⟨_, rfl, _, rfl, m1, m2, fun H2 y1 s2 u1 => ⟨lineOf (by show 2 ≤ 1000; decide), fun t1 n1 => ?_⟩⟩⟩
    have c1 := same_new (o := .tup [.str "end", y1]) n1
    have q2 := s2.trans c1
    refine ⟨_, rfl, r_fld (q2 _ _ hO) T.c_Outcome T.n_Outcome_length oF_length ⟨_, rfl, gp.length k, rfl, fun H3 y2 s3 u2 => ⟨lineOf (by show 2 ≤ 1000; decide), fun t2 n2 => ⟨lineOf (by show 2 ≤ 1000; decide), fun la nla => ?_⟩⟩⟩⟩
    have c2 := same_new (o := .tup [.str "length", y2]) n2
    have c3 := same_new (o := .lst [.ref t1, .ref t2]) nla
    have q3 := q2.trans (s3.trans (c2.trans c3))
    refine ⟨_, rfl, _, rfl, r_fld (q3 _ _ hO) T.c_Outcome T.n_Outcome_race oF_race ⟨_, rfl, raceO gp k, (hR.up fun b xs e => q3 _ _ e).rc, fun H4 y3 s4 u3 => ⟨lineOf (by show 2 ≤ 1000; decide), fun t3 n3 => ⟨lineOf (by show 1 ≤ 1000; decide), fun lb nlb => ?_⟩⟩⟩⟩
    have c4 := same_new (o := .tup [.str "race", y3]) n3
    have c5 := same_new (o := .lst [.ref t3]) nlb
    have r4 := s4.trans (c4.trans c5)
    refine ⟨la, lb, _, _, rfl, rfl, r4 _ _ upd_same, upd_same, lineOf (by show 3 ≤ 1000; decide), fun lc nlc => ?_⟩
    have c6 := same_new (o := .lst ([.ref t1, .ref t2] ++ [.ref t3])) nlc
    have r5 := c4.trans (c5.trans c6)
    have r6 := c2.trans (c3.trans (s4.trans r5))
    refine ⟨_, rfl, lc, [t1, t2, t3], [("end", y1), ("length", y2), ("race", y3)], rfl, upd_same, .cons ((s3.trans r6) _ _ upd_same) (.cons ((c3.trans (s4.trans r5)) _ _ upd_same) (.cons ((c5.trans c6) _ _ upd_same) .nil)), by show 3 ≤ 500; decide, fun e he => ?_, fun H5 y s5 hy => ?_⟩
    · simp only [List.mem_cons, List.not_mem_nil, or_false] at he
      rcases he with rfl | rfl | rfl <;> exact names_ok _ (by simp)
    obtain ⟨p, hp, eg⟩ := given_one (g := gp) k1 k2 fun x hx => by
      rw [hx] at hR
      obtain ⟨_, v, _, _, h⟩ := hR
      exact ⟨v, h⟩
    rw [hp] at sg
    have pp := s1.trans (q3.trans (s4.trans r5))
    refine q.retS D (p := p) sg (pp.trans s5) ?_
    rw [eg]
    refine hy H [.text (txt (endS (gp.one k) (gp.length k))), optR (gp.length k), raceR (raceO gp k)] pp ?_
    refine ⟨y1, _, rfl, VAt.up (off_same (c1.trans (s3.trans r6))) _ _ (u1 H s1), ?_⟩
    refine ⟨y2, _, rfl, VAt.up (off_same r6) _ _ (u2 H (s1.trans q2)), ?_⟩
    exact ⟨y3, _, rfl, VAt.up (off_same r5) _ _ (u3 H (s1.trans q3)), rfl⟩
  · refine RefuE.of (q.no _ ?_) (u := R7285d.Spec.units "limit" ++ R7285d.Spec.units " must be an integer from " ++ R7285d.Spec.decimal 1 ++ R7285d.Spec.units " to " ++ R7285d.Spec.decimal 5000) (by decide +kernel)
    rw [sg]
    have ab := argument_bt g1 (name := "limit") (a := 1) (b := 5000)
    rw [if_neg (by rw [show isBt v1 ((1 : Nat) : Int) ((5000 : Nat) : Int) = false from hb]; decide)] at ab
    show R7285d.Spec.outcome id (R7285d.Spec.oneFn gp (Rust.taken v1)) = _
    unfold R7285d.Spec.oneFn
    rw [ab]
    rfl
abbrev n_program_after : List PySem.Str := ["shelf", "rows", "words"]
theorem sc_program_after : FnScope n_program_after ["shelf", "rows"] d_program_after.scope := ⟨rfl, rfl, rfl, by decide +kernel, rfl, by decide +kernel, by decide +kernel⟩
theorem c_program_after (T : Tx w K mg) : Cal (XN P w) P w K mg base 7 "program_after" (spDoor K 2) := by
  refine cal_mk T.fd_program_after T.g_program_after sc_program_after (fun _ _ _ _ _ _ us hl => match us, hl with | [_, _], _ => rfl) (fun _ _ _ _ h => sp2_len h) (fun f cdv A outer s H vs Q E hr h => ?_)
  obtain ⟨_, _, rfl, S, Ad, wd, n, g, l, xs, c, rfl, rfl, D, n1, n2, hg, hv, gl, ll, hc, hw, q⟩ := h
  refine ⟨_, (pss_cons (ps_set (i := 2) sc_program_after.nd rfl (Or.inl rfl) pe_str)
      (pss_cons (ps_expr (pe_cal (c_demand T) hr (by decide) rfl passX (pa_cons (pe_cal (c_is_between T) hr (by decide) rfl passC (pa_cons (pe_ix ix_list (pv 1) pe_int (fun _ _ => rfl)) (pa_cons pe_int (pa_cons (pe_gi T.i_MOST_EVENTS rfl) pa_nil)))) (pa_cons (pe_gi T.i_WRONG_KIND rfl) (pa_cons (pv 2) pa_nil)))))
      (pss_one (ps_ret (pe_cal (c_record_of T) hr (by decide) rfl passC (pa_cons (pe_cal (c_machine_members T) hr (by decide) rfl passC (pa_cons (pe_cal (c_one_after T) hr (by decide) rfl passC (pa_cons (pe_ix ix_list (pe_fld (pv 0) rfl) (pe_fld (pe_ix ix_list (pv 1) pe_int (fun _ _ => rfl)) rfl) (fun _ _ => rfl)) (pa_cons (pe_fld (pe_ix ix_list (pv 1) pe_int (fun _ _ => rfl)) rfl) pa_nil))) pa_nil)) pa_nil)))))), ?_⟩
  obtain ⟨s0, v1, rfl, ls0, g1, rfl⟩ := dec_A (f := R7285d.Spec.Call.programAfter) hc ll gl
  obtain ⟨x1, e1, hx1⟩ := arg_1 hv
  obtain ⟨a0, d0, e0, ha0⟩ := arg_0 hv
  obtain ⟨dS, hS⟩ := D.shelfAt
  obtain ⟨gp, hgp⟩ := has_prog (Bool.and_eq_true_iff.mp (show (R7285d.Spec.hasProgram wd s0 && _) = true from hw)).1
  obtain ⟨ps, pa, crs, hps, eps, pat, fit⟩ := D.progAt hgp
  have sg := step_after (x := Rust.taken v1) hgp
  have hG := rest_in _ _ hg
  refine ⟨_, rfl, r_atE (i := 1) (SqL.of hG) rfl e1 ⟨_, _, _, rfl, rest H S, v1, 0, 5000, hx1, rest_in, rfl, rfl, ?_⟩⟩
  refine ⟨_, rfl, _, _, _, rfl, isBt v1 0 5000, 1, "events must be an integer from 0 to 5000", rfl, rfl, rfl, by decide +kernel, by decide +kernel, fun hb => ?_, fun hb => ?_⟩
  · obtain ⟨k, rfl, k1, k2⟩ := bt_nat (a := 0) (b := 5000) hb
    obtain ⟨b1, db, rfl, hb1⟩ := hx1
    refine ⟨_, rfl, r_fld hS T.c_Shelf T.n_Shelf_programs shF_programs ⟨_, rfl, r_atE (i := 0) (SqL.of hG) rfl e0 (r_fld (rest_in _ _ ha0) T.c_Value T.n_Value_held vF_held (r_atE (i := s0) (SqL.of hps) rfl eps
      ⟨_, rfl, r_atE (i := 1) (SqL.of hG) rfl e1 (r_fld (rest_in _ _ hb1) T.c_Value T.n_Value_held vF_held ⟨_, _, rfl, pa, gp, crs, k, rfl, rfl, pat.up rest_in, fit, k2, fun H1 S1 L1 m1 M1 wf1 le1 => ?_⟩)⟩))⟩⟩
    refine ⟨_, rfl, S1, L1, gp, _, _, rfl, M1.W, fit, wf1, by omega, fun H2 a t1 t2 t3 t4 y1 y2 y3 y4 s2 ha h1 h2 h3 h4 hm => ?_⟩
    refine ⟨_, rfl, a, [t1, t2, t3, t4], [("threads", y1), ("shared", y2), ("locks", y3), ("queues", y4)], rfl, ha, .cons h1 (.cons h2 (.cons h3 (.cons h4 .nil))), by show 4 ≤ 500; decide, fun e he => ?_, fun H5 y s5 hy => ?_⟩
    · simp only [List.mem_cons, List.not_mem_nil, or_false] at he
      rcases he with rfl | rfl | rfl | rfl <;> exact names_ok _ (by simp)
    obtain ⟨p, hp, eg⟩ := given_after (g := gp) k2
    rw [hp] at sg
    have pp := M1.same.trans s2
    refine q.retS D (p := p) sg (pp.trans s5) ?_
    rw [eg]
    exact hy H (membersR (gp.one k)) pp (hm H M1.same)
  · refine RefuE.of (q.no _ ?_) (u := R7285d.Spec.units "events" ++ R7285d.Spec.units " must be an integer from " ++ R7285d.Spec.decimal 0 ++ R7285d.Spec.units " to " ++ R7285d.Spec.decimal 5000) (by decide +kernel)
    rw [sg]
    have ab := argument_bt g1 (name := "events") (a := 0) (b := 5000)
    rw [if_neg (by rw [show isBt v1 ((0 : Nat) : Int) ((5000 : Nat) : Int) = false from hb]; decide)] at ab
    show R7285d.Spec.outcome id (R7285d.Spec.afterFn gp (Rust.taken v1)) = _
    unfold R7285d.Spec.afterFn
    rw [ab]
    rfl
end
end CT


namespace CT
open PySem PySem.Spec PyProof.Rows L2
def cfR (x : Nat × Nat) (v : Nat) : RWire.Value := .record (([("threads" : PySem.Str), "variable"].map txt).zip [natsR [x.1, x.2], .int (v : Int)])
def cfV (p : Prog) (m : Mach) (x : Nat × Nat) : RWire.Value := cfR x ((p.access m x.1).getD 0)
section
open R7285d.Spec
theorem given_conf {s : RunState} {x : Nat × Nat} (h : ∃ v, s.prog.access s.machine x.1 = some v) : Rust.given (conflictPlain s x) = cfV s.prog s.machine x := by
  obtain ⟨v, h⟩ := h
  unfold R7285d.Spec.conflictPlain cfV cfR
  rw [given_record]
  show RWire.Value.record [(uo (units "threads"), Rust.given (nats [x.1, x.2])), (uo (units "variable"), Rust.given (orNull nat (s.prog.access s.machine x.1)))] = _
  rw [given_nats, given_opt, h, show _ = _ from lits "threads" (by simp), show _ = _ from lits "variable" (by simp)]
  rfl
theorem conflicts_len {p : Prog} {m : Mach} (h : m.threads.length ≤ 4) : (p.conflicts m).length ≤ 16 := by
  have l1 := cRows_len (p := p) (m := m) (i := (p.choices m).length)
  have l2 := choices_len (p := p) (m := m)
  rw [cRows_all] at l1
  have l3 : (p.choices m).length * (p.choices m).length ≤ 4 * 4 := Nat.mul_le_mul (by omega) (by omega)
  omega
theorem step_runNew {w : SW} {r p : Nat} {g : Prog} (h : programAt w p = some g) : step w (.runNew r p) = ({ w with heap := w.heap ++ [⟨g, g.load, 0⟩], runs := w.runs.set r (some w.heap.length) }, .ret .undef) := by
  unfold R7285d.Spec.step
  simp only
  rw [h]
  rfl
theorem step_runFork {w : SW} {r q : Nat} {s : RunState} (h : runAt w q = some s) : step w (.runFork r q) = ({ w with heap := w.heap ++ [s], runs := w.runs.set r (some w.heap.length) }, .ret .undef) := by
  unfold R7285d.Spec.step
  simp only
  rw [h]
  rfl
theorem step_onRun {w : SW} {r : Nat} {s : RunState} {f : RunState → Plain} (h : runAt w r = some s) : onRun w r f = (w, .ret (f s)) := by
  unfold onRun
  rw [h]
end
section
variable {P : Program} {w : World} {K : PySem.W.Frag} {mg : PySem.Str → Option Value} {base : Heap}
abbrev n_run_new : List PySem.Str := ["shelf", "rows"]
theorem sc_run_new : FnScope n_run_new ["shelf", "rows"] d_run_new.scope := ⟨rfl, rfl, rfl, by decide +kernel, rfl, by decide +kernel, by decide +kernel⟩
theorem c_run_new (T : Tx w K mg) : Cal (CX0) P w K mg base 8 "run_new" (spDoor K 3) := by
  refine cal_mk T.fd_run_new T.g_run_new sc_run_new (fun _ _ _ _ _ _ us hl => match us, hl with | [_, _], _ => rfl) (fun _ _ _ _ h => sp2_len h) (fun f cdv A outer s H vs Q E hr h => ?_)
  obtain ⟨_, _, rfl, S, Ad, wd, n, g, l, xs, c, rfl, rfl, D, n1, n2, hg, hv, gl, ll, hc, hw, q⟩ := h
  refine ⟨_, PSs.nox ((pss_cons (ps_asg (pe_new (new_Machine T) hr (by decide) rfl (pa_cons (pe_ix ix_list (pe_fld (pv 0) rfl) (pe_fld (pe_ix ix_list (pv 1) pe_int (fun _ _ => rfl)) rfl) (fun _ _ => rfl)) pa_nil)) (pg_sub (pe_fld (pv 0) rfl) (pe_fld (pe_ix ix_list (pv 1) pe_int (fun _ _ => rfl)) rfl) set_list))
      (pss_one (ps_ret (pe_cal0 (c_nothing T) hr (by decide) rfl))))), ?_⟩
  obtain ⟨s0, t0, rfl, ls0, lt0, rfl⟩ := dec_B (f := R7285d.Spec.Call.runNew) hc ll gl
  obtain ⟨x1, e1, hx1⟩ := arg_1 hv
  obtain ⟨a0, d0, e0, ha0⟩ := arg_0 hv
  obtain ⟨b1, db, rfl, hb1⟩ := hx1
  obtain ⟨dS, hS⟩ := D.shelfAt
  obtain ⟨gp, hgp⟩ := has_prog (Bool.and_eq_true_iff.mp (show (_ && R7285d.Spec.hasProgram wd t0) = true from hw)).2
  obtain ⟨ps, pa, crs, hps, eps, pat, fit⟩ := D.progAt hgp
  have hG := rest_in _ _ hg
  refine ⟨_, rfl, r_fld hS T.c_Shelf T.n_Shelf_programs shF_programs ⟨_, rfl, r_atE (i := 1) (SqL.of hG) rfl e1 (r_fld (rest_in _ _ hb1) T.c_Value T.n_Value_held vF_held (r_atE (i := t0) (SqL.of hps) rfl eps ⟨_, rfl, pa, gp, crs, rfl, pat.up rest_in, fit, fun H1 S1 L1 ep ec s1 new W1 => ?_⟩))⟩⟩
  obtain ⟨S2, st2, D2⟩ := D.newRun (st := ⟨gp, gp.load, 0⟩) s1 new W1 (by rw [ep, ec]; exact pat) fit (load_wf fit) (Nat.zero_le _)
  obtain ⟨rs, hrs, lrs⟩ := D2.rlAt
  refine ⟨_, rfl, r_fld (s1 _ _ hS) T.c_Shelf T.n_Shelf_runs shF_runs ⟨_, rfl, r_atE (i := 0) (SqL.of (s1 _ _ hG)) rfl e0 (r_fld (s1 _ _ (rest_in _ _ ha0)) T.c_Value T.n_Value_held vF_held ⟨_, _, _, s0, rfl, rfl, hrs, ixN_nat (by omega), ?_⟩)⟩⟩
  obtain ⟨S3, st3, D3⟩ := D2.wrRun (r := s0) (i := wd.heap.length) (L := L1) hrs (by
    show (Ad.ls ++ [L1])[wd.heap.length]? = some L1
    rw [← D.lens]
    simp)
  refine ⟨rfl, fun H4 x s4 hx => ?_⟩
  refine q.ret (step_runNew hgp) (S' := S3) (A' := { Ad with ls := Ad.ls ++ [L1] }) rfl (st2.trans (st3.trans (DStp.same s4))) ((D3.same s4).more (by omega)) ?_
  rw [given_undef]
  exact VAt.up (off_rest D3.fam) _ _ (hx _ (Same.refl _))
abbrev n_run_fork : List PySem.Str := ["shelf", "rows"]
theorem sc_run_fork : FnScope n_run_fork ["shelf", "rows"] d_run_fork.scope := ⟨rfl, rfl, rfl, by decide +kernel, rfl, by decide +kernel, by decide +kernel⟩
theorem c_run_fork (T : Tx w K mg) : Cal (CX0) P w K mg base 8 "run_fork" (spDoor K 4) := by
  refine cal_mk T.fd_run_fork T.g_run_fork sc_run_fork (fun _ _ _ _ _ _ us hl => match us, hl with | [_, _], _ => rfl) (fun _ _ _ _ h => sp2_len h) (fun f cdv A outer s H vs Q E hr h => ?_)
  obtain ⟨_, _, rfl, S, Ad, wd, n, g, l, xs, c, rfl, rfl, D, n1, n2, hg, hv, gl, ll, hc, hw, q⟩ := h
  refine ⟨_, PSs.nox ((pss_cons (ps_asg (pe_cal (c_machine_copy T) hr (by decide) rfl passC (pa_cons (pe_ix ix_list (pe_fld (pv 0) rfl) (pe_fld (pe_ix ix_list (pv 1) pe_int (fun _ _ => rfl)) rfl) (fun _ _ => rfl)) pa_nil)) (pg_sub (pe_fld (pv 0) rfl) (pe_fld (pe_ix ix_list (pv 1) pe_int (fun _ _ => rfl)) rfl) set_list))
      (pss_one (ps_ret (pe_cal0 (c_nothing T) hr (by decide) rfl))))), ?_⟩
  obtain ⟨s0, t0, rfl, ls0, lt0, rfl⟩ := dec_B (f := R7285d.Spec.Call.runFork) hc ll gl
  obtain ⟨x1, e1, hx1⟩ := arg_1 hv
  obtain ⟨a0, d0, e0, ha0⟩ := arg_0 hv
  obtain ⟨b1, db, rfl, hb1⟩ := hx1
  obtain ⟨dS, hS⟩ := D.shelfAt
  obtain ⟨st, hst⟩ := has_run (Bool.and_eq_true_iff.mp (show (_ && R7285d.Spec.hasRun wd t0) = true from hw)).2
  obtain ⟨rs0, i0, L0, hix, hhp, hrs0, ers, hL, R⟩ := D.runAt hst
  have hG := rest_in _ _ hg
  refine ⟨_, rfl, r_fld hS T.c_Shelf T.n_Shelf_runs shF_runs ⟨_, rfl, r_atE (i := 1) (SqL.of hG) rfl e1 (r_fld (rest_in _ _ hb1) T.c_Value T.n_Value_held vF_held (r_atE (i := t0) (SqL.of hrs0) rfl ers ⟨_, rfl, rest H S, _, L0, _, _, _, rfl, R.mw (D.fam.mach i0), D.bes R, R.wf, fun H1 S1 L1 ep ec s1 new W1 => ?_⟩))⟩⟩
  obtain ⟨S2, st2, D2⟩ := D.newRun (st := st) s1 new W1 (by rw [ep, ec]; exact R.prog) R.fit R.wf R.few
  obtain ⟨rs, hrs, lrs⟩ := D2.rlAt
  refine ⟨_, rfl, r_fld (s1 _ _ hS) T.c_Shelf T.n_Shelf_runs shF_runs ⟨_, rfl, r_atE (i := 0) (SqL.of (s1 _ _ hG)) rfl e0 (r_fld (s1 _ _ (rest_in _ _ ha0)) T.c_Value T.n_Value_held vF_held ⟨_, _, _, s0, rfl, rfl, hrs, ixN_nat (by omega), ?_⟩)⟩⟩
  obtain ⟨S3, st3, D3⟩ := D2.wrRun (r := s0) (i := wd.heap.length) (L := L1) hrs (by
    show (Ad.ls ++ [L1])[wd.heap.length]? = some L1
    rw [← D.lens]
    simp)
  refine ⟨rfl, fun H4 x s4 hx => ?_⟩
  refine q.ret (step_runFork hst) (S' := S3) (A' := { Ad with ls := Ad.ls ++ [L1] }) rfl (st2.trans (st3.trans (DStp.same s4))) ((D3.same s4).more (by omega)) ?_
  rw [given_undef]
  exact VAt.up (off_rest D3.fam) _ _ (hx _ (Same.refl _))
abbrev n_run_state : List PySem.Str := ["shelf", "rows", "machine"]
theorem sc_run_state : FnScope n_run_state ["shelf", "rows"] d_run_state.scope := ⟨rfl, rfl, rfl, by decide +kernel, rfl, by decide +kernel, by decide +kernel⟩
theorem c_run_state (T : Tx w K mg) : Cal (CX0) P w K mg base 7 "run_state" (spDoor K 5) := by
  refine cal_mk T.fd_run_state T.g_run_state sc_run_state (fun _ _ _ _ _ _ us hl => match us, hl with | [_, _], _ => rfl) (fun _ _ _ _ h => sp2_len h) (fun f cdv A outer s H vs Q E hr h => ?_)
  obtain ⟨_, _, rfl, S, Ad, wd, n, g, l, xs, c, rfl, rfl, D, n1, n2, hg, hv, gl, ll, hc, hw, q⟩ := h
  refine ⟨_, PSs.nox ((pss_cons (ps_set (i := 2) sc_run_state.nd rfl (Or.inl rfl) (pe_cal (c_run_in T) hr (by decide) rfl passC (pa_cons (pv 0) (pa_cons (pv 1) pa_nil))))
      (pss_one (ps_ret (pe_cal (c_record_of T) hr (by decide) rfl passC (pa_cons (pe_op op_cat (pe_cal (c_machine_members T) hr (by decide) rfl passC (pa_cons (pv 2) pa_nil)) (pe_lst (pa_cons (pe_tup (pa_cons pe_str (pa_cons (pe_cal (c_integer T) hr (by decide) rfl passC (pa_cons (pe_fld (pv 2) rfl) pa_nil)) pa_nil))) pa_nil))) pa_nil)))))), ?_⟩
  obtain ⟨s0, rfl, ls0, rfl⟩ := dec_C (f := R7285d.Spec.Call.runState) hc ll gl
  obtain ⟨a0, d0, e0, ha0⟩ := arg_0 hv
  obtain ⟨dS, hS⟩ := D.shelfAt
  obtain ⟨st, hst⟩ := has_run (show R7285d.Spec.hasRun wd s0 = true from hw)
  obtain ⟨rs0, i0, L0, hix, hhp, hrs0, ers, hL, R⟩ := D.runAt hst
  have hG := rest_in _ _ hg
  have W := R.mw (D.fam.mach i0)
  have few := R.few
  refine ⟨_, rfl, _, rfl, _, _, rfl, Ad, dS, rs0, g, xs, a0, d0, s0, _, rfl, hS, hrs0, rfl, hG, e0, rest_in _ _ ha0, ers, ?_⟩
  refine ⟨_, rfl, _, rfl, _, L0, _, _, _, rfl, W, R.fit, R.wf, by omega, fun H2 a t1 t2 t3 t4 y1 y2 y3 y4 s2 ha h1 h2 h3 h4 hm => ?_⟩
  obtain ⟨dM, hM⟩ := W.mach
  refine ⟨_, rfl, r_fld (s2 _ _ hM) T.c_Machine T.n_Machine_events mF_events ⟨_, rfl, _, rfl, fun H3 y5 s3 u5 => ⟨lineOf (by show 2 ≤ 1000; decide), fun t5 m5 => ⟨lineOf (by show 1 ≤ 1000; decide), fun lb nlb => ?_⟩⟩⟩⟩
  have c1 := same_new (o := .tup [.str "events", y5]) m5
  have c2 := same_new (o := .lst [.ref t5]) nlb
  have r3 := s3.trans (c1.trans c2)
  refine ⟨a, lb, _, _, rfl, rfl, r3 _ _ ha, upd_same, lineOf (by show 5 ≤ 1000; decide), fun lc nlc => ?_⟩
  have c3 := same_new (o := .lst ([.ref t1, .ref t2, .ref t3, .ref t4] ++ [.ref t5])) nlc
  have r4 := c1.trans (c2.trans c3)
  have z := s3.trans r4
  refine ⟨_, rfl, lc, [t1, t2, t3, t4, t5], [("threads", y1), ("shared", y2), ("locks", y3), ("queues", y4), ("events", y5)], rfl, upd_same, .cons (z _ _ h1) (.cons (z _ _ h2) (.cons (z _ _ h3) (.cons (z _ _ h4) (.cons ((c2.trans c3) _ _ upd_same) .nil)))), by show 5 ≤ 500; decide, fun e he => ?_, fun H5 y s5 hy => ?_⟩
  · simp only [List.mem_cons, List.not_mem_nil, or_false] at he
    rcases he with rfl | rfl | rfl | rfl | rfl <;> exact names_ok _ (by simp)
  have pp := s2.trans z
  refine q.retS D (p := st.told) (step_onRun hst) (pp.trans s5) ?_
  rw [given_run]
  refine hy H (membersR st.machine ++ [.int (st.events : Int)]) pp ?_
  exact VMany.snoc (l := membersR st.machine) (xs := [y1, y2, y3, y4]) (VAt.up (off_same r4) _ _ (u5 H s2)) (VMany.up (off_same z) _ _ (hm H (Same.refl _)))
abbrev n_run_choices : List PySem.Str := ["shelf", "rows"]
theorem sc_run_choices : FnScope n_run_choices ["shelf", "rows"] d_run_choices.scope := ⟨rfl, rfl, rfl, by decide +kernel, rfl, by decide +kernel, by decide +kernel⟩
theorem c_run_choices (T : Tx w K mg) : Cal (CX0) P w K mg base 7 "run_choices" (spDoor K 6) := by
  refine cal_mk T.fd_run_choices T.g_run_choices sc_run_choices (fun _ _ _ _ _ _ us hl => match us, hl with | [_, _], _ => rfl) (fun _ _ _ _ h => sp2_len h) (fun f cdv A outer s H vs Q E hr h => ?_)
  obtain ⟨_, _, rfl, S, Ad, wd, n, g, l, xs, c, rfl, rfl, D, n1, n2, hg, hv, gl, ll, hc, hw, q⟩ := h
  refine ⟨_, PSs.nox ((pss_one (ps_ret (pe_cal (c_integers T) hr (by decide) rfl passC (pa_cons (pe_cal (c_choices_of T) hr (by decide) rfl passC (pa_cons (pe_cal (c_run_in T) hr (by decide) rfl passC (pa_cons (pv 0) (pa_cons (pv 1) pa_nil))) pa_nil)) pa_nil))))), ?_⟩
  obtain ⟨s0, rfl, ls0, rfl⟩ := dec_C (f := R7285d.Spec.Call.runChoices) hc ll gl
  obtain ⟨a0, d0, e0, ha0⟩ := arg_0 hv
  obtain ⟨dS, hS⟩ := D.shelfAt
  obtain ⟨st, hst⟩ := has_run (show R7285d.Spec.hasRun wd s0 = true from hw)
  obtain ⟨rs0, i0, L0, hix, hhp, hrs0, ers, hL, R⟩ := D.runAt hst
  have hG := rest_in _ _ hg
  have W := R.mw (D.fam.mach i0)
  have cl := choices_len (p := st.prog) (m := st.machine)
  have w1 := R.wf.threads
  have f3 := R.fit.threads
  refine ⟨_, rfl, _, rfl, _, _, rfl, Ad, dS, rs0, g, xs, a0, d0, s0, _, rfl, hS, hrs0, rfl, hG, e0, rest_in _ _ ha0, ers, ?_⟩
  refine ⟨_, rfl, rest H S, _, L0, _, _, _, rfl, W, D.bes R, R.wf, fun H2 C s2 nC hC => ?_⟩
  rw [natV_ints] at hC
  refine ⟨_, rfl, C, _, rfl, hC, by rw [List.length_map]; omega, fun H3 y s3 hy => ?_⟩
  refine q.retS D (p := R7285d.Spec.nats st.choices) (step_onRun hst) (s2.trans s3) ?_
  rw [given_nats]
  exact hy H s2
abbrev n_run_conflicts : List PySem.Str := ["shelf", "rows", "found", "one", "two", "variable"]
theorem sc_run_conflicts : FnScope n_run_conflicts ["shelf", "rows"] d_run_conflicts.scope := ⟨rfl, rfl, rfl, by decide +kernel, rfl, by decide +kernel, by decide +kernel⟩
theorem c_run_conflicts (T : Tx w K mg) : Cal (CX0) P w K mg base 7 "run_conflicts" (spDoor K 7) := by
  refine cal_mk T.fd_run_conflicts T.g_run_conflicts sc_run_conflicts (fun _ _ _ _ _ _ us hl => match us, hl with | [_, _], _ => rfl) (fun _ _ _ _ h => sp2_len h) (fun f cdv A outer s H vs Q E hr h => ?_)
  obtain ⟨_, _, rfl, S, Ad, wd, n, g, l, xs, c, rfl, rfl, D, n1, n2, hg, hv, gl, ll, hc, hw, q⟩ := h
  refine ⟨_, PSs.nox ((pss_cons (ps_set (i := 2) sc_run_conflicts.nd rfl (Or.inl rfl) (pe_lst pa_nil))
      (pss_cons (ps_for PassesOwn.never rfl (pi_list (pe_cal (c_conflicts_of T) hr (by decide) rfl passC (pa_cons (pe_cal (c_run_in T) hr (by decide) rfl passC (pa_cons (pv 0) (pa_cons (pv 1) pa_nil))) pa_nil))) (pg_tup rfl (pgs_cons (pg_name (i := 3) sc_run_conflicts.nd rfl (Or.inl rfl)) (pgs_cons (pg_name (i := 4) sc_run_conflicts.nd rfl (Or.inl rfl)) (pgs_cons (pg_name (i := 5) sc_run_conflicts.nd rfl (Or.inl rfl)) pgs_nil)))) (pss_one (ps_expr (pe_bm PySem.F.plainAttrs_list PySem.F.slot_list_append PySem.F.type_list_append mt_append (pv 2) (pa_cons (pe_cal (c_record_of T) hr (by decide) rfl passC (pa_cons (pe_lst (pa_cons (pe_tup (pa_cons pe_str (pa_cons (pe_cal (c_integers T) hr (by decide) rfl passC (pa_cons (pe_lst (pa_cons (pv 3) (pa_cons (pv 4) pa_nil))) pa_nil)) pa_nil))) (pa_cons (pe_tup (pa_cons pe_str (pa_cons (pe_cal (c_integer T) hr (by decide) rfl passC (pa_cons (pv 5) pa_nil)) pa_nil))) pa_nil))) pa_nil)) pa_nil)))))
      (pss_one (ps_ret (pe_cal (c_list_of T) hr (by decide) rfl passC (pa_cons (pv 2) pa_nil))))))), ?_⟩
  obtain ⟨s0, rfl, ls0, rfl⟩ := dec_C (f := R7285d.Spec.Call.runConflicts) hc ll gl
  obtain ⟨a0, d0, e0, ha0⟩ := arg_0 hv
  obtain ⟨dS, hS⟩ := D.shelfAt
  obtain ⟨st, hst⟩ := has_run (show R7285d.Spec.hasRun wd s0 = true from hw)
  obtain ⟨rs0, i0, L0, hix, hhp, hrs0, ers, hL, R⟩ := D.runAt hst
  have hG := rest_in _ _ hg
  have W := R.mw (D.fam.mach i0)
  have w1 := R.wf.threads
  have f3 := R.fit.threads
  have cl := conflicts_len (p := st.prog) (m := st.machine) (by omega)
  refine ⟨lineOf (by show 0 ≤ 1000; decide), fun E nE => ?_⟩
  have s1 := same_new (o := .lst []) nE
  refine ⟨_, rfl, _, rfl, _, _, rfl, Ad, dS, rs0, g, xs, a0, d0, s0, _, rfl, s1 _ _ hS, s1 _ _ hrs0, rfl, s1 _ _ hG, e0, s1 _ _ (rest_in _ _ ha0), ers, ?_⟩
  refine ⟨_, rfl, rest H S, _, L0, _, _, _, rfl, W.same s1, (D.bes R).same s1, R.wf, fun H2 C cs s2 nC hC hcs => ⟨C, rfl, ⟨_, SqL.of hC⟩, ?_⟩⟩
  have CE : C ≠ E := fun z => by
    rw [z, upd_same] at nC
    cases nC
  have keepS : ∀ {H3 : Hp}, (∀ b o, H2 b = some o → b ≠ E → H3 b = some o) → Same H H3 := fun k b o h => k b o (s2 _ _ (s1 _ _ h)) (ne_of_none h nE)
  refine for_list (fun i σ H3 => (∀ b o, H2 b = some o → b ≠ E → H3 b = some o) ∧ (∃ xs, H3 E = some (.lst xs) ∧ xs.length = i ∧ ∀ B, Same B H → VMany K (offD B E H3) (((st.prog.conflicts st.machine).take i).map (cfV st.prog st.machine)) xs) ∧ ∃ o3 o4 o5, σ = [some (.ref Ad.a), some (.ref g), some (.ref E), o3, o4, o5]) ⟨fun b o h _ => h, ⟨[], s2 _ _ upd_same, rfl, fun B sB => rfl⟩, _, _, _, rfl⟩ (fun i σ H3 _ h => SqL.of (h.1 _ _ hC CE)) ?_ ?_
  · rintro i v σ H3 hv ⟨s3, ⟨ys, hE, ly, hmE⟩, o3, o4, o5, rfl⟩
    have lcs := hcs.len
    have hi : i < cs.length := by
      have := (List.getElem?_eq_some_iff.mp hv).1
      rw [List.length_map] at this
      exact this
    obtain ⟨cc, hcc⟩ := get_lt hi
    obtain ⟨x, hx⟩ := get_lt (l := st.prog.conflicts st.machine) (i := i) (by omega)
    obtain ⟨va, hva, hct⟩ := hcs.get hcc hx
    rw [mapRef hcc] at hv
    cases hv
    have q3 : Same H H3 := keepS s3
    have ccE : cc ≠ E := ne_of hct (s2 _ _ upd_same) (fun z => nomatch z)
    refine ⟨cc, _, rfl, SqT.of (s3 _ _ hct ccE), rfl, _, _, rfl, _, _, rfl, _, _, rfl, rfl, ?_⟩
    refine ⟨_, rfl, .inl ⟨rfl, _, SqL.of hE⟩, ?_⟩
    refine ⟨_, rfl, _, rfl, lineOf (by show 2 ≤ 1000; decide), fun lp nlp => ?_⟩
    have c0 := same_new (o := .lst [natV x.1, natV x.2]) nlp
    refine ⟨_, rfl, lp, [(x.1 : Int), (x.2 : Int)], rfl, upd_same, by show 2 ≤ 1900000; decide, fun H4 z1 s4 u1 => ⟨lineOf (by show 2 ≤ 1000; decide), fun t1 n1 => ?_⟩⟩
    have c1 := same_new (o := .tup [.str "threads", z1]) n1
    have q4 := c0.trans (s4.trans c1)
    refine ⟨_, rfl, _, rfl, _, rfl, fun H5 z2 s5 u2 => ⟨lineOf (by show 2 ≤ 1000; decide), fun t2 n2 => ⟨lineOf (by show 2 ≤ 1000; decide), fun la nla => ?_⟩⟩⟩
    have c2 := same_new (o := .tup [.str "variable", z2]) n2
    have c3 := same_new (o := .lst [.ref t1, .ref t2]) nla
    refine ⟨_, rfl, la, [t1, t2], [("threads", z1), ("variable", z2)], rfl, upd_same, .cons ((s5.trans (c2.trans c3)) _ _ upd_same) (.cons (c3 _ _ upd_same) .nil), by show 2 ≤ 500; decide, fun e he => ?_, fun H6 y s6 hy => ?_⟩
    · simp only [List.mem_cons, List.not_mem_nil, or_false] at he
      rcases he with rfl | rfl <;> exact names_ok _ (by simp)
    have r3 : Same H3 H6 := q4.trans (s5.trans (c2.trans (c3.trans s6)))
    have hy' : ∀ B, Same B H3 → VAt K (off B H6) (cfV st.prog st.machine x) y := fun B sB => by
      have ev : cfV st.prog st.machine x = cfR x va := by
        unfold cfV
        rw [hva]
        rfl
      rw [ev]
      refine hy B [natsR [x.1, x.2], .int (va : Int)] (sB.trans (q4.trans (s5.trans (c2.trans c3)))) ?_
      refine ⟨z1, _, rfl, VAt.up (off_same (c1.trans (s5.trans (c2.trans c3)))) _ _ (u1 B (sB.trans c0)), ?_⟩
      exact ⟨z2, _, rfl, VAt.up (off_same (c2.trans c3)) _ _ (u2 B (sB.trans q4)), rfl⟩
    refine ⟨E, _, _, rfl, rfl, r3 _ _ hE, lt_line (by omega), ?_, ⟨ys ++ [y], upd_same, by simp [ly], fun B sB => ?_⟩, _, _, _, rfl⟩
    · intro b o h hb
      rw [upd_ne hb]
      exact r3 _ _ (s3 b o h hb)
    · rw [take_succ_get hx, List.map_append]
      exact many_turn sB q3 r3 hE (hmE B sB) hy'
  · rintro σ H3 ⟨s3, ⟨ys, hE, ly, hmE⟩, o3, o4, o5, rfl⟩
    rw [List.length_map, hcs.len, take_len] at hmE
    have q3 : Same H H3 := keepS s3
    refine ⟨_, rfl, _, rfl, E, ys, rfl, hE, fun H4 y s4 hy => ?_⟩
    refine q.retS D (p := .arr ((st.prog.conflicts st.machine).map (R7285d.Spec.conflictPlain st))) (step_onRun hst) (q3.trans s4) ?_
    rw [given_arr, List.map_map]
    have ev : (st.prog.conflicts st.machine).map (Rust.given ∘ R7285d.Spec.conflictPlain st) = (st.prog.conflicts st.machine).map (cfV st.prog st.machine) := List.map_congr_left fun x hx => by
      obtain ⟨i, hi⟩ := List.mem_iff_getElem?.mp hx
      obtain ⟨cc, _, va, hva, _⟩ := hcs.ex hi
      exact given_conf ⟨va, hva⟩
    rw [ev]
    exact many_end (Same.refl H) q3 hE (hmE H (Same.refl H)) hy
end
end CT


namespace CT
open PySem PySem.Spec PyProof.Rows L2
theorem RefuE.of2 {K : PySem.W.Frag} {H : Hp} {u : Units} {z : PySem.Str} {E : XK} (h : RefuE K H ⟨.rangeError, u⟩ E) (e : txt z = uo u) : Refu K H 2 z E := fun H' d t s1 n h1 h2 => h H' d t s1 n h1 (by rw [← e]; exact h2)
section
open R7285d.Spec
theorem change_ok {w : SW} {r i : Nat} {s : RunState} {f : RunState → Res (Plain × RunState)} {p : Plain} {s' : RunState} (h1 : runIndex w r = some i) (h2 : w.heap[i]? = some s) (h3 : f s = .ok (p, s')) : changeRun w r f = ({ w with heap := w.heap.set i s' }, .ret p) := by
  unfold changeRun
  rw [h1]
  simp only
  rw [h2]
  simp only
  rw [h3]
theorem change_no {w : SW} {r i : Nat} {s : RunState} {f : RunState → Res (Plain × RunState)} {e : Err} (h1 : runIndex w r = some i) (h2 : w.heap[i]? = some s) (h3 : f s = .error e) : changeRun w r f = (w, .fail e) := by
  unfold changeRun
  rw [h1]
  simp only
  rw [h2]
  simp only
  rw [h3]
theorem event_go {s : RunState} {t : Nat} {m : Mach} (h : s.prog.go s.machine t = some m) : s.event t = ⟨s.prog, m, s.events + 1⟩ := by
  unfold RunState.event
  rw [h]
theorem contains_go {s : RunState} {t : Nat} : s.choices.contains t = (s.prog.go s.machine t).isSome := by
  rw [Bool.eq_iff_iff, List.contains_iff_mem]
  show t ∈ s.prog.choices s.machine ↔ _
  rw [mem_choices, Option.isSome_iff_exists]
theorem step_bad {s : RunState} {v : RWire.Value} (g : goodV v) (h : isBt v (0 : Nat) ((s.machine.threads.length - 1 : Nat) : Int) = false) : stepFn s (Rust.taken v) = .error ⟨.typeError, units "thread" ++ units " must be an integer from " ++ decimal 0 ++ units " to " ++ decimal (s.machine.threads.length - 1)⟩ := by
  unfold stepFn goArg
  rw [argument_bt g, if_neg (by rw [h]; decide)]
  rfl
theorem step_no {s : RunState} {t : Nat} (h1 : t ≤ s.machine.threads.length - 1) (h : (s.prog.go s.machine t).isSome = false) : stepFn s (Rust.taken (.int (t : Int))) = .error (rangeErr "the thread cannot go") := by
  have ab := argument_bt (v := .int (t : Int)) ⟨rfl, rfl, rfl⟩ (name := "thread") (a := 0) (b := s.machine.threads.length - 1)
  rw [if_pos (show isBt (.int (t : Int)) ((0 : Nat) : Int) ((s.machine.threads.length - 1 : Nat) : Int) = true by
    show (decide (((0 : Nat) : Int) ≤ (t : Int)) && decide ((t : Int) ≤ ((s.machine.threads.length - 1 : Nat) : Int))) = true
    simp only [Bool.and_eq_true, decide_eq_true_eq]
    omega)] at ab
  have ab : argument "thread" 0 (s.machine.threads.length - 1) (Rust.taken (.int (t : Int))) = .ok t := ab
  unfold stepFn goArg
  rw [ab]
  show andThen (if s.choices.contains t = true then .ok t else .error (rangeErr "the thread cannot go")) _ = _
  rw [contains_go, h]
  rfl
theorem step_yes {s : RunState} {t : Nat} {m : Mach} (h1 : t ≤ s.machine.threads.length - 1) (h : s.prog.go s.machine t = some m) : stepFn s (Rust.taken (.int (t : Int))) = .ok (.undef, ⟨s.prog, m, s.events + 1⟩) := by
  have ab := argument_bt (v := .int (t : Int)) ⟨rfl, rfl, rfl⟩ (name := "thread") (a := 0) (b := s.machine.threads.length - 1)
  rw [if_pos (show isBt (.int (t : Int)) ((0 : Nat) : Int) ((s.machine.threads.length - 1 : Nat) : Int) = true by
    show (decide (((0 : Nat) : Int) ≤ (t : Int)) && decide ((t : Int) ≤ ((s.machine.threads.length - 1 : Nat) : Int))) = true
    simp only [Bool.and_eq_true, decide_eq_true_eq]
    omega)] at ab
  have ab : argument "thread" 0 (s.machine.threads.length - 1) (Rust.taken (.int (t : Int))) = .ok t := ab
  unfold stepFn goArg
  rw [ab]
  show andThen (if s.choices.contains t = true then .ok t else .error (rangeErr "the thread cannot go")) (fun t => .ok (Plain.undef, s.event t)) = _
  rw [contains_go, h]
  show (.ok (.undef, s.event t) : Res (Plain × RunState)) = _
  rw [event_go h]
theorem follow_wf {p : Prog} {goal : Mach} (F : Fit p) : ∀ (f : Nat) (m : Mach) (n : Nat), Wf p m n → Wf p (p.follow goal f m).2 (n + (p.follow goal f m).1.length)
  | 0, m, n, w => w
  | f + 1, m, n, w => by
    cases h : p.nextTo goal m with
    | none =>
      rw [follow_none h]
      exact w
    | some t =>
      obtain ⟨m', x, hg, _⟩ := next_some h
      rw [follow_some h hg]
      have := follow_wf (goal := goal) F f m' (n + 1) (w.go F hg)
      show Wf p _ (n + ((p.follow goal f m').1.length + 1))
      rw [show n + ((p.follow goal f m').1.length + 1) = n + 1 + (p.follow goal f m').1.length by omega]
      exact this
theorem sum_getD : ∀ a b : List Nat, (∀ t, t < a.length → a.getD t 0 ≤ b.getD t 0) → a.sum ≤ b.sum
  | [], _, _ => Nat.zero_le _
  | x :: a, [], h => by
    have h0 := h 0 (by simp)
    have := sum_getD a [] fun t ht => by
      have := h (t + 1) (by simpa using ht)
      simpa using this
    simp at h0 this ⊢
    exact ⟨h0, this⟩
  | x :: a, y :: b, h => by
    have h0 := h 0 (by simp)
    have := sum_getD a b fun t ht => by
      have := h (t + 1) (by simpa using ht)
      simpa using this
    simp at h0 ⊢
    omega
theorem one_threads {p : Prog} (F : Fit p) (j : Nat) : (p.one j).threads.length = p.threads.length := by
  obtain ⟨k, _, r, e, _⟩ := wf_any F j
  rw [e]
  exact (wf_one F r).threads
theorem meets_few {p : Prog} {m : Mach} {n j : Nat} (F : Fit p) (w : Wf p m n) (h : p.meets m = some j) : n ≤ 5000 ∧ (p.one j).counts.sum ≤ 5000 ∧ j ≤ 5000 := by
  have h2 := List.find?_some h
  have h3 : j < 5000 + 1 := List.mem_range.mp (List.mem_of_find?_eq_some h)
  have t1 := total_one F j
  have t1 : (p.one j).counts.sum ≤ j := t1
  have h4 : m.counts.sum ≤ (p.one j).counts.sum := sum_getD _ _ fun t ht => by
    have h2 : R7285d.Spec.behind m (p.one j) = true := h2
    unfold R7285d.Spec.behind at h2
    rw [List.all_eq_true] at h2
    have := h2 t (List.mem_range.mpr (by
      unfold R7285d.Spec.Machine.counts at ht
      rw [List.length_map] at ht
      exact ht))
    exact of_decide_eq_true this
  have h5 : m.counts.sum = n := w.total
  omega
end
section
variable {P : Program} {w : World} {K : PySem.W.Frag} {mg : PySem.Str → Option Value} {base : Heap}
abbrev n_run_step : List PySem.Str := ["shelf", "rows", "machine", "last", "words"]
theorem sc_run_step : FnScope n_run_step ["shelf", "rows"] d_run_step.scope := ⟨rfl, rfl, rfl, by decide +kernel, rfl, by decide +kernel, by decide +kernel⟩
theorem c_run_step (T : Tx w K mg) : Cal (XN P w) P w K mg base 7 "run_step" (spDoor K 8) := by
  refine cal_mk T.fd_run_step T.g_run_step sc_run_step (fun _ _ _ _ _ _ us hl => match us, hl with | [_, _], _ => rfl) (fun _ _ _ _ h => sp2_len h) (fun f cdv A outer s H vs Q E hr h => ?_)
  obtain ⟨_, _, rfl, S, Ad, wd, n, g, l, xs, c, rfl, rfl, D, n1, n2, hg, hv, gl, ll, hc, hw, q⟩ := h
  refine ⟨_, (pss_cons (ps_set (i := 2) sc_run_step.nd rfl (Or.inl rfl) (pe_cal (c_run_in T) hr (by decide) rfl passC (pa_cons (pv 0) (pa_cons (pv 1) pa_nil))))
      (pss_cons (ps_set (i := 3) sc_run_step.nd rfl (Or.inl rfl) (pe_op op_sub (pe_callB call_len_seq rfl T.f_len boot_len (pa_cons (pe_fld (pv 2) rfl) pa_nil)) pe_int))
      (pss_cons (ps_set (i := 4) sc_run_step.nd rfl (Or.inl rfl) (pe_op op_add_str pe_str (pe_callTy call_str_int rfl T.f_str (by decide +kernel) (pa_cons (pv 3) pa_nil))))
      (pss_cons (ps_expr (pe_cal (c_demand T) hr (by decide) rfl passX (pa_cons (pe_cal (c_is_between T) hr (by decide) rfl passC (pa_cons (pe_ix ix_list (pv 1) pe_int (fun _ _ => rfl)) (pa_cons pe_int (pa_cons (pv 3) pa_nil)))) (pa_cons (pe_gi T.i_WRONG_KIND rfl) (pa_cons (pv 4) pa_nil)))))
      (pss_cons (ps_expr (pe_cal (c_demand T) hr (by decide) rfl passX (pa_cons (pe_cal (c_can_go T) hr (by decide) rfl passC (pa_cons (pv 2) (pa_cons (pe_fld (pe_ix ix_list (pv 1) pe_int (fun _ _ => rfl)) rfl) pa_nil))) (pa_cons (pe_gi T.i_OUT_OF_RANGE rfl) (pa_cons pe_str pa_nil)))))
      (pss_cons (ps_expr (pe_cal (c_do_event T) hr (by decide) rfl passC (pa_cons (pv 2) (pa_cons (pe_fld (pe_ix ix_list (pv 1) pe_int (fun _ _ => rfl)) rfl) pa_nil))))
      (pss_one (ps_ret (pe_cal0 (c_nothing T) hr (by decide) rfl))))))))), ?_⟩
  obtain ⟨s0, v1, rfl, ls0, g1, rfl⟩ := dec_A (f := R7285d.Spec.Call.runStep) hc ll gl
  obtain ⟨x1, e1, hx1⟩ := arg_1 hv
  obtain ⟨a0, d0, e0, ha0⟩ := arg_0 hv
  obtain ⟨dS, hS⟩ := D.shelfAt
  obtain ⟨st, hst⟩ := has_run (Bool.and_eq_true_iff.mp (show (R7285d.Spec.hasRun wd s0 && _) = true from hw)).1
  obtain ⟨rs0, i0, L0, hix, hhp, hrs0, ers, hL, R⟩ := D.runAt hst
  have hG := rest_in _ _ hg
  have W := R.mw (D.fam.mach i0)
  have w1 := R.wf.threads
  have f3 := R.fit.threads
  have few := R.few
  obtain ⟨dM, hM⟩ := W.mach
  have tlen := W.at_.tlen
  refine ⟨_, rfl, _, rfl, _, _, rfl, Ad, dS, rs0, g, xs, a0, d0, s0, _, rfl, hS, hrs0, rfl, hG, e0, rest_in _ _ ha0, ers, ?_⟩
  refine ⟨_, rfl, r_fld hM T.c_Machine T.n_Machine_threads mF_threads ⟨L0.tl, _, rfl, .inl (SqL.of W.tl), _, _, rfl, rfl, ?_⟩⟩
  have el : (((L0.ta.map V.ref).length : Nat) : Int) - 1 = ((st.machine.threads.length - 1 : Nat) : Int) := by
    rw [List.length_map, tlen]
    omega
  dsimp only
  rw [el]
  have l40 : st.machine.threads.length - 1 ≤ 40 := by omega
  obtain ⟨d1, d2, d3⟩ := decS_ok l40
  have z7 : (PySem.Str.ofString "thread must be an integer from 0 to ").cps.size = 36 := by decide +kernel
  have zt : txt (PySem.Str.ofString "thread must be an integer from 0 to ") = uo (R7285d.Spec.units "thread" ++ R7285d.Spec.units " must be an integer from " ++ R7285d.Spec.decimal 0 ++ R7285d.Spec.units " to ") := by decide +kernel
  refine ⟨_, rfl, _, rfl, small_log l40, _, _, rfl, rfl, str_line (by
    show _ + (decS (st.machine.threads.length - 1)).cps.size ≤ _
    rw [z7]
    omega), ?_⟩
  refine ⟨_, rfl, r_atE (i := 1) (SqL.of hG) rfl e1 ⟨_, rfl, _, _, _, rfl, rest H S, v1, (0 : Nat), (st.machine.threads.length - 1 : Nat), hx1, rest_in, rfl, rfl, ?_⟩⟩
  refine ⟨_, rfl, _, _, _, rfl, isBt v1 (0 : Nat) (st.machine.threads.length - 1 : Nat), 1, PySem.Str.ofString "thread must be an integer from 0 to " ++ decS (st.machine.threads.length - 1), rfl, rfl, rfl, ?_, byteS_app (by decide +kernel) d2, fun hb => ?_, fun hb => ?_⟩
  · rw [app_size, z7]
    omega
  rotate_left
  · refine RefuE.of (q.no _ ?_) (u := R7285d.Spec.units "thread" ++ R7285d.Spec.units " must be an integer from " ++ R7285d.Spec.decimal 0 ++ R7285d.Spec.units " to " ++ R7285d.Spec.decimal (st.machine.threads.length - 1)) ?_
    · show (R7285d.Spec.changeRun wd s0 fun s => R7285d.Spec.stepFn s (Rust.taken v1)).2 = _
      rw [change_no (f := fun s => R7285d.Spec.stepFn s (Rust.taken v1)) hix hhp (step_bad g1 hb)]
    · rw [txt_app, zt, d3]
      exact (uo_app _ _).symm
  obtain ⟨k, rfl, k1, k2⟩ := bt_nat (a := 0) (b := st.machine.threads.length - 1) hb
  obtain ⟨b1, db, rfl, hb1⟩ := hx1
  obtain ⟨x, hx⟩ := get_lt (l := st.machine.threads) (i := k) (by omega)
  refine ⟨_, rfl, _, rfl, r_atE (i := 1) (SqL.of hG) rfl e1 (r_fld (rest_in _ _ hb1) T.c_Value T.n_Value_held vF_held ⟨_, _, rfl, rest H S, _, L0, _, _, _, k, x, rfl, rfl, W, D.bes R, R.wf, hx, fun H1 s1 => ?_⟩)⟩
  refine ⟨_, _, _, rfl, (st.prog.go st.machine k).isSome, 2, "the thread cannot go", rfl, rfl, rfl, by decide +kernel, by decide +kernel, fun hb2 => ?_, fun hb2 => ?_⟩
  rotate_left
  · refine RefuE.of2 ((q.no _ ?_).up s1) (u := R7285d.Spec.units "the thread cannot go") (by decide +kernel)
    show (R7285d.Spec.changeRun wd s0 fun s => R7285d.Spec.stepFn s (Rust.taken (.int (k : Int)))).2 = _
    rw [change_no (f := fun s => R7285d.Spec.stepFn s (Rust.taken (.int (k : Int)))) hix hhp (step_no k2 hb2)]
    rfl
  obtain ⟨m', hgo⟩ := Option.isSome_iff_exists.mp hb2
  have D1 := D.same s1
  refine ⟨_, rfl, _, rfl, r_atE (i := 1) (SqL.of (s1 _ _ hG)) rfl e1 (r_fld (s1 _ _ (rest_in _ _ hb1)) T.c_Value T.n_Value_held vF_held ⟨_, _, rfl, rest H S, _, L0, _, _, _, k, m', rfl, rfl, W.same s1, (D.bes R).same s1, R.wf, by omega, hgo, fun H2 G => ?_⟩)⟩
  obtain ⟨S2, st2, D2⟩ := D1.goes (k := n + 1) hL hhp G (R.wf.go R.fit hgo) (by omega) (by omega)
  refine ⟨rfl, fun H3 y s3 hy => ?_⟩
  refine q.ret (p := .undef) (w' := { wd with heap := wd.heap.set i0 ⟨st.prog, m', st.events + 1⟩ }) (change_ok (f := fun s => R7285d.Spec.stepFn s (Rust.taken (.int (k : Int)))) hix hhp (step_yes k2 hgo)) (S' := S2) (A' := Ad) rfl ((DStp.same s1).trans (st2.trans (DStp.same s3))) (D2.same s3) ?_
  rw [given_undef]
  exact VAt.up (off_rest D2.fam) _ _ (hy _ (Same.refl _))
abbrev n_run_rejoin : List PySem.Str := ["shelf", "rows", "machine", "counts"]
theorem sc_run_rejoin : FnScope n_run_rejoin ["shelf", "rows"] d_run_rejoin.scope := ⟨rfl, rfl, rfl, by decide +kernel, rfl, by decide +kernel, by decide +kernel⟩
theorem c_run_rejoin (T : Tx w K mg) : Cal (XN P w) P w K mg base 7 "run_rejoin" (spDoor K 9) := by
  refine cal_mk T.fd_run_rejoin T.g_run_rejoin sc_run_rejoin (fun _ _ _ _ _ _ us hl => match us, hl with | [_, _], _ => rfl) (fun _ _ _ _ h => sp2_len h) (fun f cdv A outer s H vs Q E hr h => ?_)
  obtain ⟨_, _, rfl, S, Ad, wd, n, g, l, xs, c, rfl, rfl, D, n1, n2, hg, hv, gl, ll, hc, hw, q⟩ := h
  refine ⟨_, (pss_cons (ps_set (i := 2) sc_run_rejoin.nd rfl (Or.inl rfl) (pe_cal (c_run_in T) hr (by decide) rfl passC (pa_cons (pv 0) (pa_cons (pv 1) pa_nil))))
      (pss_cons (ps_set (i := 3) sc_run_rejoin.nd rfl (Or.inl rfl) (pe_cal (c_place_for T) hr (by decide) rfl passC (pa_cons (pv 2) pa_nil)))
      (pss_cons (ps_expr (pe_cal (c_demand T) hr (by decide) rfl passX (pa_cons (pe_cmpR op_notN (pv 3) pe_non (nomark _)) (pa_cons (pe_gi T.i_OUT_OF_RANGE rfl) (pa_cons pe_str pa_nil)))))
      (pss_one (ps_ret (pe_cal (c_integer T) hr (by decide) rfl passC (pa_cons (pe_cal (c_rejoin T) hr (by decide) rfl passC (pa_cons (pv 2) (pa_cons (pv 3) pa_nil))) pa_nil))))))), ?_⟩
  obtain ⟨s0, rfl, ls0, rfl⟩ := dec_C (f := R7285d.Spec.Call.runRejoin) hc ll gl
  obtain ⟨a0, d0, e0, ha0⟩ := arg_0 hv
  obtain ⟨dS, hS⟩ := D.shelfAt
  obtain ⟨st, hst⟩ := has_run (show R7285d.Spec.hasRun wd s0 = true from hw)
  obtain ⟨rs0, i0, L0, hix, hhp, hrs0, ers, hL, R⟩ := D.runAt hst
  have hG := rest_in _ _ hg
  have W := R.mw (D.fam.mach i0)
  have few := R.few
  refine ⟨_, rfl, _, rfl, _, _, rfl, Ad, dS, rs0, g, xs, a0, d0, s0, _, rfl, hS, hrs0, rfl, hG, e0, rest_in _ _ ha0, ers, ?_⟩
  refine ⟨_, rfl, _, rfl, rest H S, _, L0, _, _, _, rfl, W, D.bes R, R.wf, fun H1 v s1 mv => ?_⟩
  cases hm : st.prog.meets st.machine with
  | none =>
    rw [hm] at mv
    have mv : v = .non := mv
    subst mv
    refine ⟨_, rfl, rfl, _, _, _, rfl, false, 2, "the one run is too long", rfl, rfl, rfl, by decide +kernel, by decide +kernel, (fun z => by cases z), fun _ => ?_⟩
    refine RefuE.of2 ((q.no _ ?_).up s1) (u := R7285d.Spec.units "the one run is too long") (by decide +kernel)
    show (R7285d.Spec.changeRun wd s0 R7285d.Spec.rejoinFn).2 = _
    rw [change_no (f := R7285d.Spec.rejoinFn) (e := R7285d.Spec.rangeErr "the one run is too long") hix hhp (by
      unfold R7285d.Spec.rejoinFn
      rw [hm])]
    rfl
  | some j =>
    rw [hm] at mv
    obtain ⟨cc, rfl, ncc, hcc, j5⟩ := mv
    obtain ⟨k1, k2, k3⟩ := meets_few R.fit R.wf hm
    have D1 := D.same s1
    refine ⟨_, rfl, rfl, _, _, _, rfl, true, 2, "the one run is too long", rfl, rfl, rfl, by decide +kernel, by decide +kernel, fun _ => ?_, (fun z => by cases z)⟩
    refine ⟨_, rfl, _, rfl, _, _, rfl, rest H S, _, L0, st.prog, st.machine, st.events, cc, st.prog.one j, rfl, rfl, W.same s1, (D.bes R).same s1, R.wf, hcc, fun q => D.fam.fresh ncc _, by rw [one_threads R.fit, R.wf.threads], by omega, fun H2 G => ?_⟩
    have fl := follow_len (p := st.prog) (goal := st.prog.one j) (st.prog.one j).counts.sum st.machine
    obtain ⟨S2, st2, D2⟩ := D1.goes (k := n + 1) hL hhp G (follow_wf R.fit _ _ _ R.wf) (by omega) (by omega)
    refine ⟨_, rfl, _, rfl, fun H3 y s3 hy => ?_⟩
    refine q.ret (change_ok (f := R7285d.Spec.rejoinFn) hix hhp (by
      unfold R7285d.Spec.rejoinFn
      rw [hm]
      show (.ok (R7285d.Spec.nat (st.prog.follow (st.prog.one j) (st.prog.one j).counts.sum st.machine).1.length, R7285d.Spec.RunState.doAll ⟨st.prog, st.machine, st.events⟩ (st.prog.follow (st.prog.one j) (st.prog.one j).counts.sum st.machine).1) : R7285d.Spec.Res _) = _
      rw [doAll_follow])) (S' := S2) (A' := Ad) rfl ((DStp.same s1).trans (st2.trans (DStp.same s3))) (D2.same s3) ?_
    rw [given_nat]
    exact VAt.up (off_rest D2.fam) _ _ (hy _ (Same.refl _))
end
end CT


namespace CT
open PySem PySem.Spec PyProof.Rows L2
theorem wkF_len {m : Addr} {b : Bool} : (wkF m b).length < 1000 := by show 2 < 1000; decide
section
open R7285d.Spec
theorem step_walkNew {w : SW} {v r i : Nat} (h : runIndex w r = some i) : R7285d.Spec.step w (.walkNew v r) = ({ w with walks := w.walks.set v (some (i, false)) }, .ret .undef) := by
  unfold R7285d.Spec.step
  simp only
  rw [h]
theorem walk_idx {w : SW} {v : Nat} {q : Nat × Bool} (h : walkAt w v = some q) : w.walks[v]? = some (some q) := by
  unfold walkAt at h
  rw [List.getD_eq_getElem?_getD] at h
  cases e : w.walks[v]? with
  | none => rw [e] at h; cases h
  | some o => rw [e] at h; exact congrArg some h
theorem set_back {α : Type} {l : List α} {i : Nat} {a : α} (h : l[i]? = some a) : l.set i a = l := by
  apply List.ext_getElem?
  intro j
  by_cases e : j = i
  · subst e
    rw [set_get h, h]
  · rw [set_other e]
theorem step_walkOver {w : SW} {v i : Nat} (h : walkAt w v = some (i, true)) : R7285d.Spec.step w (.walkNext v) = ({ w with walks := w.walks.set v (some (i, true)) }, .ret (iteration .undef true)) := by
  show nextOfWalk w v = _
  unfold nextOfWalk
  rw [h, set_back (walk_idx h)]
theorem step_walkStuck {w : SW} {v i : Nat} {s : RunState} (h : walkAt w v = some (i, false)) (hs : w.heap[i]? = some s) (hc : s.prog.choices s.machine = []) : R7285d.Spec.step w (.walkNext v) = ({ w with walks := w.walks.set v (some (i, true)) }, .ret (iteration .undef true)) := by
  show nextOfWalk w v = _
  unfold nextOfWalk
  rw [h]
  simp only
  rw [hs]
  simp only
  have : walkStep s = none := by
    unfold walkStep RunState.choices
    rw [hc]
  rw [this]
theorem step_walkGo {w : SW} {v i t : Nat} {s : RunState} {m : Mach} (h : walkAt w v = some (i, false)) (hs : w.heap[i]? = some s) (ht : (s.prog.choices s.machine)[s.events % (s.prog.choices s.machine).length]? = some t) (hg : s.prog.go s.machine t = some m) :
    R7285d.Spec.step w (.walkNext v) = ({ w with heap := w.heap.set i ⟨s.prog, m, s.events + 1⟩ }, .ret (iteration (nat t) false)) := by
  show nextOfWalk w v = _
  unfold nextOfWalk
  rw [h]
  simp only
  rw [hs]
  simp only
  have : walkStep s = some (t, ⟨s.prog, m, s.events + 1⟩) := by
    unfold walkStep RunState.choices
    cases hc : s.prog.choices s.machine with
    | nil => rw [hc] at ht; simp at ht
    | cons a r =>
      rw [hc] at ht
      have e : (a :: r).getD (s.events % (r.length + 1)) a = t := by
        rw [List.getD_eq_getElem?_getD]
        have ht : (a :: r)[s.events % (r.length + 1)]? = some t := ht
        rw [ht]
        rfl
      simp only
      rw [e, event_go hg]
  rw [this]
theorem step_walkEnd {w : SW} {v : Nat} {q : Nat × Bool} {x : Plain} (h : walkAt w v = some q) : R7285d.Spec.step w (.walkReturn v x) = ({ w with walks := w.walks.set v (some (q.1, true)) }, .ret (iteration x true)) := by
  unfold R7285d.Spec.step
  simp only
  rw [h]
end
section
variable {P : Program} {w : World} {K : PySem.W.Frag} {mg : PySem.Str → Option Value} {base : Heap}
abbrev n_walk_new : List PySem.Str := ["shelf", "rows"]
theorem sc_walk_new : FnScope n_walk_new ["shelf", "rows"] d_walk_new.scope := ⟨rfl, rfl, rfl, by decide +kernel, rfl, by decide +kernel, by decide +kernel⟩
theorem c_walk_new (T : Tx w K mg) : Cal (CX0) P w K mg base 8 "walk_new" (spDoor K 10) := by
  refine cal_mk T.fd_walk_new T.g_walk_new sc_walk_new (fun _ _ _ _ _ _ us hl => match us, hl with | [_, _], _ => rfl) (fun _ _ _ _ h => sp2_len h) (fun f cdv A outer s H vs Q E hr h => ?_)
  obtain ⟨_, _, rfl, S, Ad, wd, n, g, l, xs, c, rfl, rfl, D, n1, n2, hg, hv, gl, ll, hc, hw, q⟩ := h
  refine ⟨_, PSs.nox ((pss_cons (ps_asg (pe_new (new_Walk T) hr (by decide) rfl (pa_cons (pe_ix ix_list (pe_fld (pv 0) rfl) (pe_fld (pe_ix ix_list (pv 1) pe_int (fun _ _ => rfl)) rfl) (fun _ _ => rfl)) pa_nil)) (pg_sub (pe_fld (pv 0) rfl) (pe_fld (pe_ix ix_list (pv 1) pe_int (fun _ _ => rfl)) rfl) set_list))
      (pss_one (ps_ret (pe_cal0 (c_nothing T) hr (by decide) rfl))))), ?_⟩
  obtain ⟨s0, t0, rfl, ls0, lt0, rfl⟩ := dec_B (f := R7285d.Spec.Call.walkNew) hc ll gl
  obtain ⟨x1, e1, hx1⟩ := arg_1 hv
  obtain ⟨a0, d0, e0, ha0⟩ := arg_0 hv
  obtain ⟨b1, db, rfl, hb1⟩ := hx1
  obtain ⟨dS, hS⟩ := D.shelfAt
  obtain ⟨st, hst⟩ := has_run (Bool.and_eq_true_iff.mp (show (_ && R7285d.Spec.hasRun wd t0) = true from hw)).2
  obtain ⟨rs0, i0, L0, hix, hhp, hrs0, ers, hL, R⟩ := D.runAt hst
  have hG := rest_in _ _ hg
  obtain ⟨ws, hws, lws⟩ := D.wlAt
  refine ⟨_, rfl, r_fld hS T.c_Shelf T.n_Shelf_runs shF_runs ⟨_, rfl, r_atE (i := 1) (SqL.of hG) rfl e1 (r_fld (rest_in _ _ hb1) T.c_Value T.n_Value_held vF_held (r_atE (i := t0) (SqL.of hrs0) rfl ers ⟨_, rfl, L0.a, rfl, fun H1 wa dx s1 nw hwa => ?_⟩))⟩⟩
  refine ⟨_, rfl, r_fld (s1 _ _ hS) T.c_Shelf T.n_Shelf_walks shF_walks ⟨_, rfl, r_atE (i := 0) (SqL.of (s1 _ _ hG)) rfl e0 (r_fld (s1 _ _ (rest_in _ _ ha0)) T.c_Value T.n_Value_held vF_held ⟨_, _, _, s0, rfl, rfl, s1 _ _ hws, ixN_nat (by omega), ?_⟩)⟩⟩
  obtain ⟨S2, st2, D2⟩ := D.newWalk (v := s0) s1 nw hwa (s1 _ _ hws) hL
  refine ⟨rfl, fun H4 x s4 hx => ?_⟩
  refine q.ret (step_walkNew hix) (S' := S2) (A' := Ad) rfl (st2.trans (DStp.same s4)) ((D2.same s4).more (by omega)) ?_
  rw [given_undef]
  exact VAt.up (off_rest D2.fam) _ _ (hx _ (Same.refl _))
abbrev n_walk_end : List PySem.Str := ["shelf", "rows"]
theorem sc_walk_end : FnScope n_walk_end ["shelf", "rows"] d_walk_end.scope := ⟨rfl, rfl, rfl, by decide +kernel, rfl, by decide +kernel, by decide +kernel⟩
theorem c_walk_end (T : Tx w K mg) : Cal (CX0) P w K mg base 7 "walk_end" (spDoor K 12) := by
  refine cal_mk T.fd_walk_end T.g_walk_end sc_walk_end (fun _ _ _ _ _ _ us hl => match us, hl with | [_, _], _ => rfl) (fun _ _ _ _ h => sp2_len h) (fun f cdv A outer s H vs Q E hr h => ?_)
  obtain ⟨_, _, rfl, S, Ad, wd, n, g, l, xs, c, rfl, rfl, D, n1, n2, hg, hv, gl, ll, hc, hw, q⟩ := h
  refine ⟨_, PSs.nox ((pss_cons (ps_fld (pe_ix ix_list (pe_fld (pv 0) rfl) (pe_fld (pe_ix ix_list (pv 1) pe_int (fun _ _ => rfl)) rfl) (fun _ _ => rfl)) pe_bl rfl)
      (pss_one (ps_ret (pe_cal (c_result T) hr (by decide) rfl passC (pa_cons (pe_ix ix_list (pv 1) pe_int (fun _ _ => rfl)) (pa_cons pe_bl pa_nil))))))), ?_⟩
  obtain ⟨s0, v1, rfl, ls0, g1, rfl⟩ := dec_A (f := R7285d.Spec.Call.walkReturn) hc ll gl
  obtain ⟨x1, e1, hx1⟩ := arg_1 hv
  obtain ⟨a0, d0, e0, ha0⟩ := arg_0 hv
  obtain ⟨dS, hS⟩ := D.shelfAt
  obtain ⟨⟨i0, b0⟩, hq⟩ := has_walk (Bool.and_eq_true_iff.mp (show (R7285d.Spec.hasWalk wd s0 && _) = true from hw)).1
  obtain ⟨ws, L0, wa, dx, hws, ews, hL, hwa, lw⟩ := D.walkAt hq
  have hG := rest_in _ _ hg
  have hW := D.fam.sub _ _ _ hwa
  refine ⟨_, rfl, r_fld hS T.c_Shelf T.n_Shelf_walks shF_walks ⟨_, rfl, r_atE (i := 0) (SqL.of hG) rfl e0 (r_fld (rest_in _ _ ha0) T.c_Value T.n_Value_held vF_held (r_atE (i := s0) (SqL.of hws) rfl ews (r_set hW T.c_Walk T.n_Walk_is_over wkF_len wkF_put ?_)))⟩⟩
  obtain ⟨S2, st2, D2⟩ := D.overWalk hq hL hwa (fun ys hys => by
    rw [hws] at hys
    cases hys
    exact ews)
  have rs := rest_stp st2.stp
  refine ⟨_, rfl, r_atE (i := 1) (SqL.of (rest_in _ _ (rs _ _ hg))) rfl e1 ⟨_, _, rfl, true, rest _ S2, v1, rfl, VAt.up rs _ _ hx1, rest_in, fun H3 z s3 hz => ?_⟩⟩
  refine q.ret (step_walkEnd hq) (S' := S2) (A' := Ad) rfl (st2.trans (DStp.same s3)) ((D2.same s3).more (by omega)) ?_
  rw [given_iter, given_taken v1 g1]
  exact hz _ (rest_same s3) (off_rest D2.fam)
abbrev n_walk_next : List PySem.Str := ["shelf", "rows", "walk", "choices", "number"]
theorem sc_walk_next : FnScope n_walk_next ["shelf", "rows"] d_walk_next.scope := ⟨rfl, rfl, rfl, by decide +kernel, rfl, by decide +kernel, by decide +kernel⟩
theorem c_walk_next (T : Tx w K mg) : Cal (CX0) P w K mg base 7 "walk_next" (spDoor K 11) := by
  refine cal_mk T.fd_walk_next T.g_walk_next sc_walk_next (fun _ _ _ _ _ _ us hl => match us, hl with | [_, _], _ => rfl) (fun _ _ _ _ h => sp2_len h) (fun f cdv A outer s H vs Q E hr h => ?_)
  obtain ⟨_, _, rfl, S, Ad, wd, n, g, l, xs, c, rfl, rfl, D, n1, n2, hg, hv, gl, ll, hc, hw, q⟩ := h
  refine ⟨_, PSs.nox ((pss_cons (ps_set (i := 2) sc_walk_next.nd rfl (Or.inl rfl) (pe_ix ix_list (pe_fld (pv 0) rfl) (pe_fld (pe_ix ix_list (pv 1) pe_int (fun _ _ => rfl)) rfl) (fun _ _ => rfl)))
      (pss_cons (ps_set (i := 3) sc_walk_next.nd rfl (Or.inl rfl) (pe_ifExp (pt_val (pe_fld (pv 2) rfl)) (pe_lst pa_nil) (pe_cal (c_choices_of T) hr (by decide) rfl passC (pa_cons (pe_fld (pv 2) rfl) pa_nil))))
      (pss_cons (ps_if (pt_cmpR op_eq (pe_callB call_len_seq rfl T.f_len boot_len (pa_cons (pv 3) pa_nil)) pe_int (nomark _)) (pss_cons (ps_fld (pv 2) pe_bl rfl)
      (pss_one (ps_ret (pe_cal (c_result T) hr (by decide) rfl passC (pa_cons (pe_cal0 (c_nothing T) hr (by decide) rfl) (pa_cons pe_bl pa_nil)))))) pss_nil)
      (pss_cons (ps_set (i := 4) sc_walk_next.nd rfl (Or.inl rfl) (pe_ix ix_list (pv 3) (pe_op op_mod (pe_fld (pe_fld (pv 2) rfl) rfl) (pe_callB call_len_seq rfl T.f_len boot_len (pa_cons (pv 3) pa_nil))) (fun _ _ => rfl)))
      (pss_cons (ps_expr (pe_cal (c_do_event T) hr (by decide) rfl passC (pa_cons (pe_fld (pv 2) rfl) (pa_cons (pv 4) pa_nil))))
      (pss_one (ps_ret (pe_cal (c_result T) hr (by decide) rfl passC (pa_cons (pe_cal (c_integer T) hr (by decide) rfl passC (pa_cons (pv 4) pa_nil)) (pa_cons pe_bl pa_nil))))))))))), ?_⟩
  obtain ⟨s0, rfl, ls0, rfl⟩ := dec_C (f := R7285d.Spec.Call.walkNext) hc ll gl
  obtain ⟨a0, d0, e0, ha0⟩ := arg_0 hv
  obtain ⟨dS, hS⟩ := D.shelfAt
  obtain ⟨⟨i0, b0⟩, hq⟩ := has_walk (show R7285d.Spec.hasWalk wd s0 = true from hw)
  obtain ⟨ws, L0, wa, dx, hws, ews, hL, hwa, lw⟩ := D.walkAt hq
  have hG := rest_in _ _ hg
  have hW := D.fam.sub _ _ _ hwa
  refine ⟨_, rfl, r_fld hS T.c_Shelf T.n_Shelf_walks shF_walks ⟨_, rfl, r_atE (i := 0) (SqL.of hG) rfl e0 (r_fld (rest_in _ _ ha0) T.c_Value T.n_Value_held vF_held (r_atE (i := s0) (SqL.of hws) rfl ews ?_))⟩⟩
  -- the end of a walk
  have fin : ∀ H1 C, Same H H1 → H1 C = some (.lst []) → R7285d.Spec.step wd (.walkNext s0) = ({ wd with walks := wd.walks.set s0 (some (i0, true)) }, .ret (R7285d.Spec.iteration .undef true)) →
      tSeq (sFld K (tVar 2) (tC (.bl true)) "is_over") (tRet (tCallS (spResult K) (fun _ => E0) (tCons (tCall (sp0 fun H Q _ => spMk K H .nothing Q) [] E0 tNil) (tCons (tC (.bl true)) tNil)))) { nx := fun _ H' => Q .non H', rt := Q } [some (.ref Ad.a), some (.ref g), some (.ref wa), some (.ref C), none] H1 := fun H1 C s1 hC hst => by
    have D1 := D.same s1
    refine ⟨_, rfl, r_set (s1 _ _ hW) T.c_Walk T.n_Walk_is_over wkF_len wkF_put ?_⟩
    obtain ⟨S2, st2, D2⟩ := D1.overWalk hq hL hwa (fun ys hys => by
      rw [s1 _ _ hws] at hys
      cases hys
      exact ews)
    refine ⟨rfl, fun H3 x s3 hx => ⟨_, _, rfl, true, rest H3 S2, .nothing, rfl, VAt.up (off_rest D2.fam) _ _ (hx _ (Same.refl _)), rest_in, fun H4 z s4 hz => ?_⟩⟩
    refine q.ret hst (S' := S2) (A' := Ad) rfl ((DStp.same s1).trans (st2.trans (DStp.same (s3.trans s4)))) ((D2.same (s3.trans s4)).more (by omega)) ?_
    rw [given_iter, given_undef]
    exact hz _ (rest_same s4) (off_rest (D2.same s3).fam)
  refine ⟨_, rfl, r_fld hW T.c_Walk T.n_Walk_is_over wkF_over ⟨_, rfl, ?_⟩⟩
  cases b0 with
  | true =>
    refine if_t rfl ⟨lineOf (by show 0 ≤ 1000; decide), fun C nC => ?_⟩
    refine ⟨_, rfl, C, _, rfl, .inl (SqL.of upd_same), rfl, _, rfl, if_t (by decide) ?_⟩
    exact fin _ C (same_new nC) upd_same (step_walkOver hq)
  | false =>
    obtain ⟨st, hst⟩ := get_lt (l := wd.heap) (i := i0) (by rw [← D.lens]; exact (List.getElem?_eq_some_iff.mp hL).1)
    have R := D.heap i0 L0 st hL hst
    have W := R.mw (D.fam.mach i0)
    have few := R.few
    refine if_f rfl ⟨_, rfl, r_fld hW T.c_Walk T.n_Walk_machine wkF_machine ⟨_, rfl, rest H S, _, L0, _, _, _, rfl, W, D.bes R, R.wf, fun H1 C s1 nC hC => ?_⟩⟩
    refine ⟨_, rfl, C, _, rfl, .inl (SqL.of hC), rfl, _, rfl, ?_⟩
    cases hcs : st.prog.choices st.machine with
    | nil =>
      rw [hcs] at hC
      exact if_t rfl (fin _ C s1 hC (step_walkStuck hq hst hcs))
    | cons t0 r0 =>
      have lc : (st.prog.choices st.machine).length = r0.length + 1 := by rw [hcs]; rfl
      rw [← hcs]
      refine if_f (decide_eq_false (by
        rw [List.length_map, lc]
        intro z
        have := V.int.inj z
        omega)) ?_
      obtain ⟨t, ht⟩ := get_lt (l := st.prog.choices st.machine) (i := st.events % (st.prog.choices st.machine).length) (Nat.mod_lt _ (by omega))
      obtain ⟨m', hgo⟩ := mem_choices.mp (List.mem_of_getElem? ht)
      obtain ⟨dM, hM⟩ := W.mach
      have D1 := D.same s1
      refine ⟨_, rfl, _, rfl, r_fld (s1 _ _ hW) T.c_Walk T.n_Walk_machine wkF_machine (r_fld (s1 _ _ hM) T.c_Machine T.n_Machine_events mF_events ⟨_, rfl, C, _, rfl, .inl (SqL.of hC), _, _, rfl, rfl, ?_, ?_⟩)⟩
      · rw [List.length_map]
        omega
      refine r_atE (i := st.events % (st.prog.choices st.machine).length) (SqL.of hC) ?_ (mapNat ht) ?_
      · rw [List.length_map]
        rfl
      refine ⟨_, rfl, r_fld (s1 _ _ hW) T.c_Walk T.n_Walk_machine wkF_machine ⟨_, rfl, _, _, rfl, rest H S, _, L0, _, _, _, t, m', rfl, rfl, W.same s1, (D.bes R).same s1, R.wf, by omega, hgo, fun H2 G => ?_⟩⟩
      obtain ⟨S2, st2, D2⟩ := D1.goes (k := n + 1) hL hst G (R.wf.go R.fit hgo) (by omega) (by omega)
      refine ⟨_, rfl, _, rfl, _, rfl, fun H3 x s3 hx => ⟨_, _, rfl, false, rest H3 S2, .int (t : Int), rfl, VAt.up (off_rest D2.fam) _ _ (hx _ (Same.refl _)), rest_in, fun H4 z s4 hz => ?_⟩⟩
      refine q.ret (step_walkGo hq hst ht hgo) (S' := S2) (A' := Ad) rfl ((DStp.same s1).trans (st2.trans (DStp.same (s3.trans s4)))) (D2.same (s3.trans s4)) ?_
      rw [given_iter, given_nat]
      exact hz _ (rest_same s4) (off_rest (D2.same s3).fam)
end
end CT


namespace CT
open PySem PySem.Spec PyProof.Rows L2
/-! ### a written dict whose keys are whole numbers -/
structure IKeys (K : PySem.W.Frag) (d : Addr) (qs : List (Int × PySem.Str)) (es : Array DictEntry) (ep : Nat) : Prop where
  look : K.lookup d = some ⟨.type "dict", none, .dict es ep, #[]⟩
  ents : intsB K es.toList qs = true
  nd : (qs.map fun q : Int × PySem.Str => (Sum.inl q.1 : Key)).Nodup
def iVals (K : PySem.W.Frag) (qs : List (Int × PySem.Str)) : List (Key × Value) := qs.map fun q => (Sum.inl q.1, .ref (He.ga K q.2))
theorem pairs_ints {P : Program} {w : World} {K : PySem.W.Frag} : ∀ {l : List DictEntry} {qs : List (Int × PySem.Str)}, intsB K l qs = true → Pairs (mixKind P w) l (iVals K qs) ∧ ∀ e ∈ l, ∃ k, (mixKind P w).is k e.key = true ∧ e.hash = (mixKind P w).hash k
  | [], [], _ => ⟨.nil, fun e he => by cases he⟩
  | [], q :: qs, h => by cases h
  | e :: r, [], h => by cases h
  | e :: r, q :: qs, h => by
    unfold intsB at h
    simp only [Bool.and_eq_true, decide_eq_true_eq] at h
    obtain ⟨h1, h2, h3, h4⟩ := h
    obtain ⟨p, k⟩ := pairs_ints (P := P) (w := w) h4
    have is : (mixKind P w).is (.inl q.1) e.key = true := by
      split at h1
      · rename_i k t ek
        have := of_decide_eq_true h1
        rw [ek, this]
        exact kV_is (k := .inl q.1) ⟨t, rfl⟩
      · cases h1
    refine ⟨.cons is h3 p, fun e' he => ?_⟩
    rcases List.mem_cons.mp he with rfl | he
    · exact ⟨.inl q.1, is, h2⟩
    · exact k e' he
def rIxI (K : PySem.W.Frag) : R2 := fun x y H Q => ∃ p i qs es ep q, x = .ref p ∧ y = .int i ∧ IKeys K p qs es ep ∧ qs.find? (fun q => decide (q.1 = i)) = some q ∧ Q (.ref (He.ga K q.2)) H
theorem ix_ints {X : Cx} : IxR X (rIxI X.K) := by
  intro value slice pins s σ H x y v u Q I rx ry h hs
  obtain ⟨p, i, qs, es, ep, q, rfl, rfl, S, hq, hQ⟩ := h
  obtain rfl : v = Value.ref p := rx
  obtain ⟨t, rfl⟩ := ry
  obtain ⟨pr, kk⟩ := pairs_ints (P := X.prog) (w := X.w) S.ents
  have hd : s.heap.DictOf (mixKind X.prog X.w) p (iVals X.K qs) := by
    refine ⟨_, es, ep, I.kIn _ _ S.look, ⟨rfl, rfl, rfl⟩, rfl, fun e he => ?_, pr, ?_⟩
    · obtain ⟨k, h1, h2⟩ := kk e (Array.mem_toList_iff.mpr he)
      exact ⟨k, h1, h2⟩
    · unfold iVals
      rw [List.map_map]
      exact S.nd
  have hv : valueAt (iVals X.K qs) (.inl i : Key) = some (.ref (He.ga X.K q.2)) := by
    unfold valueAt iVals
    rw [List.find?_map]
    have e : ((fun kv : Key × Value => decide (kv.1 = .inl i)) ∘ fun q : Int × PySem.Str => ((Sum.inl q.1 : Key), (Value.ref (He.ga X.K q.2) : Value))) = fun q : Int × PySem.Str => decide (q.1 = i) := by
      funext z
      show decide ((Sum.inl z.1 : Key) = .inl i) = decide (z.1 = i)
      exact decide_eq_decide.mpr ⟨fun h => Sum.inl.inj h, fun h => congrArg _ h⟩
    rw [e, hq]
    rfl
  exact tail_any hd.typeIs slot_dict_getitem.lookup (wpAny_getItem_of (kV_is (k := .inl i) ⟨t, rfl⟩) hd.mapOf hv ⟨.ref (He.ga X.K q.2), H, I.tok _, rfl, hQ⟩) hs
theorem doors_nd : (doorNames.map fun q : Int × PySem.Str => (Sum.inl q.1 : Key)).Nodup := by decide +kernel
theorem Tx.doors {w : World} {K : PySem.W.Frag} {mg : PySem.Str → Option Value} (T : Tx w K mg) : ∃ es ep, IKeys K (He.ga K "DOORS") doorNames es ep := by
  have h := T.s.ex
  unfold exB at h
  have h := (Bool.and_eq_true_iff.mp (Bool.and_eq_true_iff.mp (Bool.and_eq_true_iff.mp (Bool.and_eq_true_iff.mp (Bool.and_eq_true_iff.mp h).2).2).2).2).1
  unfold doorsB at h
  split at h
  · rename_i c es ep sl hl
    simp only [Bool.and_eq_true, decide_eq_true_eq] at h
    obtain ⟨h1, h2, h3, h4⟩ := h
    subst h1
    have es0 : sl = #[] := by
      apply Array.ext'
      simpa using h2
    subst es0
    exact ⟨es, ep, hl, h4, doors_nd⟩
  · cases h
def manyV : List V := manyVals.map (He.Dv.v [])
theorem Tx.many {w : World} {K : PySem.W.Frag} {mg : PySem.Str → Option Value} (T : Tx w K mg) (H : Hp) : SqT K H (He.ga K "MANY") manyV := by
  have h := T.s.ex
  unfold exB at h
  have h := (Bool.and_eq_true_iff.mp (Bool.and_eq_true_iff.mp h).2).1
  exact He.tupB_ok h H
/-! ### a call of a local that holds one of many defs, of which some raise -/
structure Door1 (P : Program) (w : World) (K : PySem.W.Frag) (mg : PySem.Str → Option Value) (base : Heap) (k : Nat) (f : Addr) (sp : Sp) : Prop where
  ex : ∃ (fd : FuncData) (ps : List PySem.Str) (j : Nat), (FnOk P w K mg base CX0 j f fd ps sp ∨ FnOk P w K mg base (XN P w) j f fd ps sp) ∧ j ≤ k ∧ PySem.W.keepIn K (.ref f) = true ∧ Binds K fd ps []
def tCallD (i : Nat) (Φ : Addr → Sp → Prop) (E : L2.St → XK) (t : TA) : TE := fun σ H Q => ∃ f sp, σ[i]? = some (some (.ref f)) ∧ Φ f sp ∧ t σ H fun vs H1 => sp vs H1 Q (E σ)
section
variable {X : Cx} {k i : Nat} {E : L2.St → XK} {x : PySem.Str} {p pos : Pos} {e : Expr} {es : List Expr} {t : TA} {Φ : Addr → Sp → Prop}
theorem pe_callD (A : ∀ f sp, Φ f sp → Door1 X.prog X.w X.K X.mg X.base k f sp) (hr : Room k X.A) (hN : X.N[i]? = some x) (hv : Vis X.env.scope x) (hx : ∀ σ, PassesAt (XN X.prog X.w) X σ (E σ)) (ha : PA X (e :: es) t)
    (hdb : (x == ("__debug__" : PySem.Str)) = false := by decide) (hcd : (x == ("__classdict__" : PySem.Str)) = false := by decide)
    (he : starEach (e :: es) X.env = (false, eval e X.env) :: starEach es X.env := by rfl) (hpl : (backTo pos (starEach es X.env)).any (·.1) = false := by rfl) :
    PE X (.Call (.Name x p) (e :: es) [] pos) (tCallD i Φ E t) := by
  refine ⟨fun pins s σ H Q I h => ?_⟩
  obtain ⟨f, sp, hs, hp, ht⟩ := h
  obtain ⟨fd, ps, j, F, hj, hk, hb⟩ := (A f sp hp).ex
  refine wpAny_Call_Name_kw (thn ((pe_var (pos := p) hN hv hdb hcd).run pins s σ H (fun v H1 => v = .ref f ∧ H1 = H) I ⟨.ref f, hs, rfl, rfl⟩) fun u s1 ⟨v, H1, I1, r1, q1⟩ => ?_)
  obtain ⟨rfl, rfl⟩ := q1
  cases r1
  refine PySem.W.callWith_K (h₀ := X.base) I.ok.mod.kin hk (thn (ha.run pos pins s1 σ _ _ I1 ht) fun us s2 ⟨vs, H2, I2, r, q⟩ => ⟨I2.kIn, ?_⟩) he hpl
  rcases F with F | F
  · exact run_fnS F (hr.mono hj) hb (fun _ _ _ _ _ _ h => h.elim) I2 r q
  · exact run_fnS F (hr.mono hj) hb (hx σ) I2 r q
end
theorem Cal.door {P : Program} {w : World} {K : PySem.W.Frag} {mg : PySem.Str → Option Value} {base : Heap} {j k : Nat} {x : PySem.Str} {sp : Sp} (c : Cal CX0 P w K mg base j x sp) (h : j ≤ k) : Door1 P w K mg base k (He.ga K x) sp := by
  obtain ⟨fd, ps, F, _, hk, hb⟩ := c.ex
  exact ⟨fd, ps, j, .inl F, h, hk, hb⟩
theorem Cal.doorX {P : Program} {w : World} {K : PySem.W.Frag} {mg : PySem.Str → Option Value} {base : Heap} {j k : Nat} {x : PySem.Str} {sp : Sp} (c : Cal (XN P w) P w K mg base j x sp) (h : j ≤ k) : Door1 P w K mg base k (He.ga K x) sp := by
  obtain ⟨fd, ps, F, _, hk, hb⟩ := c.ex
  exact ⟨fd, ps, j, .inr F, h, hk, hb⟩
/-- a door by its number -/
def dName : Nat → PySem.Str
  | 0 => "program_new"
  | 1 => "program_one"
  | 2 => "program_after"
  | 3 => "run_new"
  | 4 => "run_fork"
  | 5 => "run_state"
  | 6 => "run_choices"
  | 7 => "run_conflicts"
  | 8 => "run_step"
  | 9 => "run_rejoin"
  | 10 => "walk_new"
  | 11 => "walk_next"
  | _ => "walk_end"
theorem door_find : ∀ d : Nat, d < 13 → doorNames.find? (fun q => decide (q.1 = (d : Int))) = some ((d : Int), dName d)
  | 0, _ => by decide +kernel
  | 1, _ => by decide +kernel
  | 2, _ => by decide +kernel
  | 3, _ => by decide +kernel
  | 4, _ => by decide +kernel
  | 5, _ => by decide +kernel
  | 6, _ => by decide +kernel
  | 7, _ => by decide +kernel
  | 8, _ => by decide +kernel
  | 9, _ => by decide +kernel
  | 10, _ => by decide +kernel
  | 11, _ => by decide +kernel
  | 12, _ => by decide +kernel
  | n + 13, h => absurd h (by omega)
theorem many_at : ∀ d : Nat, d < 13 → atI manyV (d : Int) = some (natV (manyN d))
  | 0, _ => rfl
  | 1, _ => rfl
  | 2, _ => rfl
  | 3, _ => rfl
  | 4, _ => rfl
  | 5, _ => rfl
  | 6, _ => rfl
  | 7, _ => rfl
  | 8, _ => rfl
  | 9, _ => rfl
  | 10, _ => rfl
  | 11, _ => rfl
  | 12, _ => rfl
  | n + 13, h => absurd h (by omega)
def DoorP (K : PySem.W.Frag) (f : Addr) (sp : Sp) : Prop := ∃ d, d < 13 ∧ f = He.ga K (dName d) ∧ sp = spDoor K d
theorem doors_all {P : Program} {w : World} {K : PySem.W.Frag} {mg : PySem.Str → Option Value} {base : Heap} (T : Tx w K mg) : ∀ f sp, DoorP K f sp → Door1 P w K mg base 8 f sp := by
  rintro f sp ⟨d, hd, rfl, rfl⟩
  match d, hd with
  | 0, _ => exact (c_program_new T).doorX (by decide)
  | 1, _ => exact (c_program_one T).doorX (by decide)
  | 2, _ => exact (c_program_after T).doorX (by decide)
  | 3, _ => exact (c_run_new T).door (by decide)
  | 4, _ => exact (c_run_fork T).door (by decide)
  | 5, _ => exact (c_run_state T).door (by decide)
  | 6, _ => exact (c_run_choices T).door (by decide)
  | 7, _ => exact (c_run_conflicts T).door (by decide)
  | 8, _ => exact (c_run_step T).doorX (by decide)
  | 9, _ => exact (c_run_rejoin T).doorX (by decide)
  | 10, _ => exact (c_walk_new T).door (by decide)
  | 11, _ => exact (c_walk_next T).door (by decide)
  | 12, _ => exact (c_walk_end T).door (by decide)
  | n + 13, h => exact absurd h (by omega)
/-! ### the arguments that are not handed in -/
def padded (d : Nat) (l : List RWire.Value) : List RWire.Value := l ++ List.replicate (manyN d - l.length) .nothing
theorem arg_pad (l : List RWire.Value) (k i : Nat) : Rust.argAt (Rust.takenAll (l ++ List.replicate k .nothing)) i = Rust.argAt (Rust.takenAll l) i := by
  rw [takenAll_map, takenAll_map, List.map_append]
  unfold Rust.argAt
  rw [List.getD_eq_getElem?_getD, List.getD_eq_getElem?_getD]
  by_cases h : i < l.length
  · rw [List.getElem?_append_left (by rw [List.length_map]; exact h)]
  · rw [List.getElem?_append_right (by rw [List.length_map]; omega), List.map_replicate, List.getElem?_replicate, List.getElem?_eq_none (l := l.map Rust.taken) (by rw [List.length_map]; omega)]
    split
    · show Rust.taken .nothing = .undef
      rw [Rust.taken]
    · rfl
theorem pad_T {n : Nat} {l : List RWire.Value} {k : Nat} {c : R7285d.Spec.Call} (F : (Nat → R7285d.Spec.Plain) → Option R7285d.Spec.Call) (hk : k = n - l.length) (h : Rust.taking n (Rust.takenAll l) (F (Rust.argAt (Rust.takenAll l))) = some c) :
    l.length ≤ n ∧ Rust.taking n (Rust.takenAll (l ++ List.replicate k .nothing)) (F (Rust.argAt (Rust.takenAll (l ++ List.replicate k .nothing)))) = some c := by
  have e : Rust.argAt (Rust.takenAll (l ++ List.replicate k .nothing)) = Rust.argAt (Rust.takenAll l) := funext fun i => arg_pad l k i
  rw [e]
  unfold Rust.taking at h ⊢
  split at h
  · rename_i hl
    have hl := Nat.le_of_ble_eq_true hl
    rw [takenAll_map, List.length_map] at hl
    refine ⟨hl, ?_⟩
    rw [if_pos (by
      rw [takenAll_map, List.length_map, List.length_append, List.length_replicate, hk]
      exact Nat.ble_eq_true_of_le (by omega))]
    exact h
  · cases h
theorem pad_calls {d : Nat} {l : List RWire.Value} {c : R7285d.Spec.Call} (h : Rust.calls0 d (Rust.takenAll l) = some c) : d < 13 ∧ l.length ≤ manyN d ∧ Rust.calls0 d (Rust.takenAll (padded d l)) = some c := by
  match d, h with
  | 0, h => exact ⟨by decide, pad_T (n := 2) (fun g => (Rust.slotOf 1 (g 0)).bind fun s0 => some (.programNew s0 (g 1))) rfl h⟩
  | 1, h => exact ⟨by decide, pad_T (n := 2) (fun g => (Rust.slotOf 1 (g 0)).bind fun s0 => some (.programOne s0 (g 1))) rfl h⟩
  | 2, h => exact ⟨by decide, pad_T (n := 2) (fun g => (Rust.slotOf 1 (g 0)).bind fun s0 => some (.programAfter s0 (g 1))) rfl h⟩
  | 3, h => exact ⟨by decide, pad_T (n := 2) (fun g => (Rust.slotOf 1 (g 0)).bind fun s0 => (Rust.slotOf 1 (g 1)).bind fun s1 => some (.runNew s0 s1)) rfl h⟩
  | 4, h => exact ⟨by decide, pad_T (n := 2) (fun g => (Rust.slotOf 1 (g 0)).bind fun s0 => (Rust.slotOf 1 (g 1)).bind fun s1 => some (.runFork s0 s1)) rfl h⟩
  | 5, h => exact ⟨by decide, pad_T (n := 1) (fun g => (Rust.slotOf 1 (g 0)).bind fun s0 => some (.runState s0)) rfl h⟩
  | 6, h => exact ⟨by decide, pad_T (n := 1) (fun g => (Rust.slotOf 1 (g 0)).bind fun s0 => some (.runChoices s0)) rfl h⟩
  | 7, h => exact ⟨by decide, pad_T (n := 1) (fun g => (Rust.slotOf 1 (g 0)).bind fun s0 => some (.runConflicts s0)) rfl h⟩
  | 8, h => exact ⟨by decide, pad_T (n := 2) (fun g => (Rust.slotOf 1 (g 0)).bind fun s0 => some (.runStep s0 (g 1))) rfl h⟩
  | 9, h => exact ⟨by decide, pad_T (n := 1) (fun g => (Rust.slotOf 1 (g 0)).bind fun s0 => some (.runRejoin s0)) rfl h⟩
  | 10, h => exact ⟨by decide, pad_T (n := 2) (fun g => (Rust.slotOf 1 (g 0)).bind fun s0 => (Rust.slotOf 1 (g 1)).bind fun s1 => some (.walkNew s0 s1)) rfl h⟩
  | 11, h => exact ⟨by decide, pad_T (n := 1) (fun g => (Rust.slotOf 1 (g 0)).bind fun s0 => some (.walkNext s0)) rfl h⟩
  | 12, h => exact ⟨by decide, pad_T (n := 2) (fun g => (Rust.slotOf 1 (g 0)).bind fun s0 => some (.walkReturn s0 (g 1))) rfl h⟩
  | n + 13, h => cases h
theorem asked_read {bs : List UInt8} {c : R7285d.Spec.Call} (h : Rust.asked bs = some c) : ∃ d l, RWire.readRequest bs = some (d, l) ∧ goodL l ∧ Rust.calls0 d (Rust.takenAll l) = some c := by
  unfold Rust.asked at h
  split at h
  · rename_i d l hr
    split at h
    · rename_i hk
      unfold Rust.ofKinds Rust.bigTold Rust.octetsTold Rust.wideTold at hk
      simp only [Bool.false_or, Bool.and_eq_true] at hk
      refine ⟨d, l, hr, goodL_of hk.1.1 hk.1.2 hk.2, ?_⟩
      unfold Rust.callOf at h
      split at h
      · exact h
      · cases h
    · cases h
  · cases h
theorem VMany.append {K : PySem.W.Frag} {F : Hp} : ∀ {l m : List RWire.Value} {xs ys : List V}, VMany K F l xs → VMany K F m ys → VMany K F (l ++ m) (xs ++ ys)
  | [], m, xs, ys, h, k => by
    have h : xs = [] := h
    subst h
    exact k
  | v :: l, m, xs, ys, ⟨x, zs, e, h1, h2⟩, k => by
    subst e
    exact ⟨x, zs ++ ys, rfl, h1, VMany.append h2 k⟩
theorem takes0N {X : Cx} : L2N.Takes X (fun _ _ _ _ => False) := fun _ _ x => by
  obtain ⟨_, _, _, _, _, _, _, _, _, _, _, _, _, _, _, _, z⟩ := x
  exact z.elim
theorem hot_suite {X : Cx} {a : Addr} {oe : Obj} {cls : Value} {d : Option Addr} {pn : List (Addr × Obj)} (hz : L2N.Zn cls d oe) (hf : ∃ vs, oe.data = .fields vs) : L2H.HotC (X.suite a ((a, oe) :: pn)) := by
  obtain ⟨vs, hv⟩ := hf
  exact ⟨(a, oe), ⟨rfl, vs, hv, hz.2.2 vs hv⟩, List.mem_cons_self⟩
theorem room_suite {X : Cx} {k : Nat} {a : Addr} {pn : List (Addr × Obj)} (hr : Room k X.A) : L2H.RoomH k (X.suite a pn).A := ⟨hr.dp, hr.un⟩
end CT

namespace CT
open PySem PySem.Spec PyProof.Rows L2
theorem many_le (d : Nat) : manyN d ≤ 2 := by
  unfold manyN
  split <;> decide
theorem step_asked {w : SW} {bs : List UInt8} {c : R7285d.Spec.Call} (h : Rust.asked bs = some c) (hc : Rust.canBe w c = true) : Rust.step w bs = ((R7285d.Spec.step w c).1, RWire.writeAnswer (Rust.answerOf (R7285d.Spec.step w c).2)) := by
  unfold Rust.step
  rw [h]
  simp only
  rw [if_pos hc]
theorem xd_kind {x y : V} : ([("message", x), ("kind", y)] : List (PySem.Str × V)).lookup ("kind" : PySem.Str) = some y := by kernel_rfl
theorem xd_message {x y : V} : ([("message", x), ("kind", y)] : List (PySem.Str × V)).lookup ("message" : PySem.Str) = some x := by kernel_rfl
theorem kind_oct (c : R7285d.Spec.Cls) : natV (UInt8.ofNat (Rust.classOf c)).toNat = .int (Rust.classOf c : Nat) := by cases c <;> rfl
section
variable {P : Program} {w : World} {K : PySem.W.Frag} {mg : PySem.Str → Option Value} {base : Heap}
def spAnswer (K : PySem.W.Frag) : Sp := sp2 fun u v H Q _ => ∃ S A w n p bs c, u = .ref A.a ∧ v = .ref p ∧ DAt K H S A w n ∧ 10000 ≤ n ∧ n < 900000 ∧ H p = some (.lst (octV bs)) ∧ bs.length < 1000000 ∧ Rust.asked bs = some c ∧ Rust.canBe w c = true ∧ Rust.tellable (R7285d.Spec.step w c).2 = true ∧ (Rust.step w bs).2.length ≤ 65536 ∧
  ∀ H' S' A' a, A'.a = A.a → DStp H S H' S' → DAt K H' S' A' (Rust.step w bs).1 (n + 1) → rest H' S' a = some (.lst (octV (Rust.step w bs).2)) → rest H S a = none → Q (.ref a) H'
abbrev n_answer : List PySem.Str := ["shelf", "octets", "door", "given", "refusal", "number", "rows", "found", "turn"]
theorem sc_answer : FnScope n_answer ["shelf", "octets"] d_answer.scope := ⟨rfl, rfl, rfl, by decide +kernel, rfl, by decide +kernel, by decide +kernel⟩
theorem c_answer (T : Tx w K mg) : Cal (CX0) P w K mg base 72 "answer" (spAnswer K) := by
  refine cal_mk T.fd_answer T.g_answer sc_answer (fun _ _ _ _ _ _ us hl => match us, hl with | [_, _], _ => rfl) (fun _ _ _ _ h => sp2_len h) (fun f cdv A outer s H vs Q E hr h => ?_)
  obtain ⟨_, _, rfl, S, Ad, wd, n, p, bs, c, rfl, rfl, D, n1, n2, hp, small, hak, hcb, htl, hln, q⟩ := h
  refine ⟨_, PSs.nox ((pss_cons (ps_asg (pe_cal (c_request_of T) hr (by decide) rfl passC (pa_cons (pv 1) pa_nil)) (pg_tup rfl (pgs_cons (pg_name (i := 5) sc_answer.nd rfl (Or.inl rfl)) (pgs_cons (pg_name (i := 6) sc_answer.nd rfl (Or.inl rfl)) pgs_nil))))
      (pss_cons (ps_set (i := 2) sc_answer.nd rfl (Or.inl rfl) (pe_ix ix_ints (pe_gr T.g_DOORS rfl) (pv 5) (fun _ _ => rfl)))
      (pss_cons (ps_set (i := 3) sc_answer.nd rfl (Or.inl rfl) (pe_op op_cat (pv 6) (pe_lc (own := [("turn", 8)]) rfl sc_answer.nd (pi_range1 rfl T.f_range (pa_cons (pe_op op_sub (pe_ix ix_tup (pe_gr T.g_MANY rfl) (pv 5) (fun _ _ => rfl)) (pe_callB call_len_seq rfl T.f_len boot_len (pa_cons (pv 6) pa_nil))) pa_nil)) (blkOk_by (N := n_answer) (sc := d_answer.scope) (by decide +kernel)) (fun _ _ _ _ _ => (pg_name (i := 8) sc_answer.nd rfl (Or.inl rfl))) (fun _ _ _ _ _ => pts_nil) (fun _ _ _ _ _ => (pe_new (new_Value T) hr (by decide) rfl (pa_cons (pe_gi T.i_NOTHING rfl) (pa_cons pe_int pa_nil)))))))
      (pss_cons (L2N.ps_try_as (i := 4) rfl rfl sc_answer.nd rfl rfl ⟨rfl, by decide, .inl T.g_Refusal⟩ takes0N (fun W pn xe tk _ => (pss_one (ps_set (i := 7) sc_answer.nd rfl (Or.inl rfl) (pe_callD (i := 2) (E := WE W) (doors_all T) (hr.mono (by decide)) rfl (Or.inl rfl) (fun σ => L2N.passAt tk σ) (pa_cons (pv 0) (pa_cons (pv 3) pa_nil)))))) (fun a oe cls d pn hz hf => (pss_one (ps_ret (pe_op op_cat (pe_lst (pa_cons pe_int (pa_cons (pe_xf T.ref.xf T.n_Refusal_kind hz.zc hf (pv 4)) pa_nil))) (pe_calH (E := fun _ => E0) (ch_counted T) (room_suite hr) (by decide) (hot_suite hz hf) rfl passC (pa_cons (pe_xf T.ref.xf T.n_Refusal_message hz.zc hf (pv 4)) pa_nil)))))))
      (pss_one (ps_ret (pe_op op_cat (pe_lst (pa_cons pe_int pa_nil)) (pe_cal (c_written T 32) hr (by decide) rfl passC (pa_cons (pv 7) pa_nil)))))))))), ?_⟩
  obtain ⟨d, l, hrq, gl, hcl⟩ := asked_read hak
  obtain ⟨hd, hll, hcp⟩ := pad_calls hcl
  have m2 := many_le d
  have er := step_asked hak hcb
  rw [er] at q hln
  obtain ⟨es, ep, IK⟩ := T.doors
  refine ⟨_, rfl, _, rfl, p, bs, d, l, rfl, hp, small, hrq, gl, fun H1 a c1 xs s1 ha nc hc hm => ?_⟩
  refine ⟨a, _, rfl, SqT.of ha, rfl, _, _, rfl, _, _, rfl, rfl, ?_⟩
  refine ⟨_, rfl, He.ga K "DOORS", (d : Int), doorNames, es, ep, _, rfl, rfl, IK, door_find d hd, ?_⟩
  have lx : xs.length = l.length := (hm H (Same.refl H)).len
  refine ⟨_, rfl, _, rfl, He.ga K "MANY", manyV, _, _, rfl, rfl, T.many H1, many_at d hd, _, rfl, c1, _, rfl, .inl (SqL.of hc), _, _, rfl, rfl, _, rfl, by omega, by omega, fun G nG => ?_⟩
  have et : (((manyN d : Nat) : Int) - ((xs.length : Nat) : Int)).toNat = manyN d - l.length := by omega
  rw [et]
  refine lc_range (fun i H3 => Same H1 H3 ∧ ∃ ys, H3 G = some (.lst ys) ∧ ys.length = i ∧ ∀ B, Same B H1 → VMany K (offD B G H3) (List.replicate i .nothing) ys) ⟨same_new nG, [], upd_same, rfl, fun B sB => rfl⟩ ?_ ?_
  · rintro i H3 hi ⟨s3, ys, hD, ly, hy⟩
    refine ⟨rfl, _, _, rfl, 0, rfl, fun H4 b dx s4 n4 h4 => ⟨ys, s4 _ _ hD, lt_line (by omega), same_at nG (s3.trans s4), ys ++ [.ref b], upd_same, by simp [ly], fun B sB => ?_⟩⟩
    rw [List.replicate_succ']
    exact many_turn sB s3 s4 hD (hy B sB) fun B' sB' => vis_new sB' n4 h4
  rintro H3 ⟨s3, ys, hD, ly, hy⟩
  refine ⟨c1, G, _, _, rfl, rfl, s3 _ _ hc, hD, lineOf (by omega), fun R0 nR0 => ?_⟩
  have s5 := same_new (o := .lst (xs ++ ys)) nR0
  have pS := s1.trans (s3.trans s5)
  have D5 := D.same pS
  have hV : VMany K (rest (upd H3 R0 (.lst (xs ++ ys))) S) (padded d l) (xs ++ ys) := VMany.append (VMany.up ((off_rest D.fam).trans (rest_same (s3.trans s5))) _ _ (hm H (Same.refl H))) (VMany.up ((offD_off.trans (off_rest D.fam)).trans (rest_same s5)) _ _ (hy H s1))
  have gp : goodL (padded d l) := fun v hv => by
    rcases List.mem_append.mp hv with h | h
    · exact gl v h
    · rw [List.eq_of_mem_replicate h]
      exact ⟨rfl, rfl, rfl⟩
  refine ⟨_, _, rfl, ⟨d, hd, rfl, rfl⟩, _, rfl, _, rfl, _, _, rfl, S, Ad, wd, n, R0, padded d l, xs ++ ys, c, rfl, rfl, D5, n1, n2, rest_new (D.same (s1.trans s3)).fam nR0 upd_same, hV, gp, ?_, hcp, (Bool.and_eq_true_iff.mp hcb).1, ⟨fun pl hpl H6 S6 A6 x eA st6 D6 hx => ?_, fun e he H6 dd t s6 nt hdd ht => ?_⟩⟩
  · unfold padded
    rw [List.length_append, List.length_replicate]
    omega
  · rw [hpl] at htl hln q
    have htl : (Rust.narrow pl && (RWire.fine (Rust.given pl) && decide (RWire.depth (Rust.given pl) ≤ 32))) = true := htl
    simp only [Bool.and_eq_true, decide_eq_true_eq] at htl
    have hln : (RWire.write (Rust.given pl)).length + 1 ≤ 65536 := hln
    refine ⟨lineOf (by show 1 ≤ 1000; decide), fun L0 nL0 => ?_⟩
    have sL := same_new (o := .lst [.int 0]) nL0
    refine ⟨_, rfl, _, rfl, _, Rust.given pl, VAt.up (rest_same sL) _ _ hx, rest_in, htl.2.1, htl.2.2, by omega, fun H7 a7 s7 na7 ha7 => ?_⟩
    refine ⟨L0, a7, _, _, rfl, rfl, s7 _ _ upd_same, ha7, ?_, fun R nR => ?_⟩
    · rw [octV_len, sizeLine_eq]
      show 1 + _ ≤ _
      omega
    · have sR := same_new (o := .lst ([.int 0] ++ octV (RWire.write (Rust.given pl)))) nR
      have z := sL.trans (s7.trans sR)
      refine q _ S6 A6 R eA ((DStp.same pS).trans (st6.trans (DStp.same z))) (D6.same z) ?_ ?_
      · exact rest_new (D6.same (sL.trans s7)).fam nR upd_same
      · rcases none_or (rest H S R) with h | ⟨u, h⟩
        · exact h
        · have := rest_in _ _ ((rest_stp ((DStp.same pS).trans (st6.trans (DStp.same (sL.trans s7)))).stp) _ _ h)
          rw [this] at nR
          cases nR
  · have fs := fail_same he
    rw [he] at hln q
    rw [fs] at q
    have hln : (uo e.msg).length + 4 + 2 ≤ 65536 := by
      have h : (UInt8.ofNat 1 :: UInt8.ofNat (Rust.classOf e.cls) :: (RWire.low 4 (uo e.msg).length ++ uo e.msg)).length ≤ 65536 := hln
      rw [List.length_cons, List.length_cons, List.length_append, low_len] at h
      omega
    refine ⟨true, T.ref.exm, fun _ a na => ?_, (fun z => nomatch z)⟩
    refine ⟨_, rfl, rfl, rfl, dd, _, _, rfl, hdd, xd_kind, lineOf (by show 2 ≤ 1000; decide), fun L1 nL1 => ?_⟩
    have sL := same_new (o := .lst [.int 1, .int (Rust.classOf e.cls : Nat)]) nL1
    refine ⟨_, rfl, rfl, rfl, dd, _, _, rfl, sL _ _ hdd, xd_message, _, rfl, t, uo e.msg, rfl, sL _ _ ht, by omega, fun H7 a7 s7 na7 ha7 => ?_⟩
    refine ⟨L1, a7, _, _, rfl, rfl, s7 _ _ upd_same, ha7, ?_, fun R nR => ?_⟩
    · rw [octV_len, sizeLine_eq]
      show 2 + (RWire.low 4 _ ++ _).length ≤ _
      rw [List.length_append, low_len]
      omega
    · have sR := same_new (o := .lst ([.int 1, .int (Rust.classOf e.cls : Nat)] ++ octV (RWire.writeText (uo e.msg)))) nR
      have z := s6.trans (sL.trans (s7.trans sR))
      have D7 := D5.same (s6.trans (sL.trans s7))
      refine q _ S Ad R rfl (DStp.same (pS.trans z)) ((D5.same z).more (by omega)) ?_ ?_
      · refine (rest_new D7.fam nR upd_same).trans ?_
        show some (HO.lst (V.int 1 :: V.int (Rust.classOf e.cls : Nat) :: octV (RWire.writeText (uo e.msg)))) = some (HO.lst (natV (UInt8.toNat 1) :: natV (UInt8.ofNat (Rust.classOf e.cls)).toNat :: octV (RWire.writeText (uo e.msg))))
        rw [kind_oct]
        rfl
      · rcases none_or (rest H S R) with h | ⟨u, h⟩
        · exact h
        · have := rest_in _ _ ((rest_same (pS.trans (s6.trans (sL.trans s7)))) _ _ h)
          rw [this] at nR
          cases nR
end
end CT


namespace CT
open PySem PySem.Spec PyProof.Rows L2
/-! ### the requests, one behind the other -/
inductive Reqs : List Int → List (List Int) → Prop where
  | nil : Reqs [] []
  | cons {x s : List Int} {xs : List (List Int)} : Reqs s xs → Reqs (0 :: (x.length : Int) :: (x ++ s)) (x :: xs)
theorem call_zero {r : List Int} : PyFlat.call PyZq92.shape (0 :: r) = (match PyFlat.rows 1 r with
    | none => none
    | some (xs, t) => some ([0] :: xs, t)) := rfl
theorem call_ne {p : Int} {r : List Int} (h : p ≠ 0) : PyFlat.call PyZq92.shape (p :: r) = none := by
  have e : PyZq92.shape p = none := if_neg h
  unfold PyFlat.call
  simp only
  rw [e]
theorem rows_one {n : Int} {r : List Int} (h : 0 ≤ n ∧ n.toNat ≤ r.length) : PyFlat.rows 1 (n :: r) = some ([r.take n.toNat], r.drop n.toNat) := by
  have e : PyFlat.row (n :: r) = some (r.take n.toNat, r.drop n.toNat) := if_pos h
  unfold PyFlat.rows
  rw [e]
  rfl
theorem rows_no {n : Int} {r : List Int} (h : ¬ (0 ≤ n ∧ n.toNat ≤ r.length)) : PyFlat.rows 1 (n :: r) = none := by
  have e : PyFlat.row (n :: r) = none := if_neg h
  unfold PyFlat.rows
  rw [e]
theorem calls_reqs : ∀ (f : Nat) (l : List Int) (cs : List (List (List Int))), PyFlat.calls PyZq92.shape f l = some cs → Reqs l (cs.map fun c => (PyZq92.whole c).headD [])
  | f, [], cs, h => by
    cases f <;> (cases h; exact .nil)
  | 0, _ :: _, cs, h => by cases h
  | f + 1, p :: r, cs, h => by
    unfold PyFlat.calls at h
    cases hc : PyFlat.call PyZq92.shape (p :: r) with
    | none => rw [hc] at h; cases h
    | some q =>
      obtain ⟨c, t⟩ := q
      rw [hc] at h
      simp only at h
      cases hr : PyFlat.calls PyZq92.shape f t with
      | none => rw [hr] at h; cases h
      | some ds =>
        rw [hr] at h
        cases h
        have ih := calls_reqs f t ds hr
        by_cases hp : p = 0
        · subst hp
          rw [call_zero] at hc
          cases r with
          | nil => cases hc
          | cons n r =>
            by_cases hn : 0 ≤ n ∧ n.toNat ≤ r.length
            · rw [rows_one hn] at hc
              cases hc
              have hx : ((r.take n.toNat).length : Int) = n := by
                rw [List.length_take, Nat.min_eq_left hn.2]
                omega
              have := Reqs.cons (x := r.take n.toNat) ih
              rw [hx, List.take_append_drop] at this
              exact this
            · rw [rows_no hn] at hc
              cases hc
        · rw [call_ne hp] at hc
          cases hc
theorem played_replies : ∀ (cs : List (List (List Int))) (s : SW), PyFlat.played (fun s c => Zq92Neutral.step s (c.headD [])) s cs = Zq92Neutral.replies s (cs.map fun c => c.headD [])
  | [], s => rfl
  | c :: cs, s => by
    show (Zq92Neutral.step s (c.headD [])).2 :: PyFlat.played _ _ cs = _
    rw [played_replies cs]
    rfl
theorem told_cons (a : List Int) (l : List (List Int)) : PyFlat.told (a :: l) = ((a.length : Int) :: a) ++ PyFlat.told l := by
  unfold PyFlat.told
  rw [List.flatMap_cons]
structure Going (l : List Int) (i : Nat) (w : SW) (k left : Nat) (xs : List (List Int)) (out : List Int) : Prop where
  le : i ≤ l.length
  reqs : Reqs (l.drop i) xs
  goes : Rust.goes w left (xs.map Zq92Neutral.bytesOf) = true
  byte : xs.all Zq92Neutral.asked1 = true
  told : out ++ PyFlat.told (Zq92Neutral.replies w xs) = PyZq92.answers l
  few : k + xs.length ≤ 200
  room : out.length + left ≤ 4000000 + k
theorem going_start {l : List Int} (h : PyZq92.answers_asked l = true) : ∃ xs, Going l 0 R7285d.Spec.World.start 0 4000000 xs [] := by
  unfold PyZq92.answers_asked at h
  cases hc : PyZq92.calls l with
  | none => rw [hc] at h; cases h
  | some cs =>
    rw [hc] at h
    have h : (PyFlat.atMost 200 cs && Zq92Neutral.asked (cs.map fun c => c.headD []) && PyFlat.short 10000000 (PyZq92.answers l)) = true := h
    obtain ⟨h1, _⟩ := Bool.and_eq_true_iff.mp h
    obtain ⟨h2, h3⟩ := Bool.and_eq_true_iff.mp h1
    unfold Zq92Neutral.asked at h3
    obtain ⟨h4, h5⟩ := Bool.and_eq_true_iff.mp h3
    obtain ⟨_, h6⟩ := Bool.and_eq_true_iff.mp h5
    unfold Rust.fits at h6
    obtain ⟨h7, h8⟩ := Bool.and_eq_true_iff.mp h6
    have hr : Reqs l (cs.map fun c => c.headD []) := by
      unfold PyZq92.calls at hc
      cases hd : PyFlat.calls PyZq92.shape l.length l with
      | none => rw [hd] at hc; cases hc
      | some ds =>
        rw [hd] at hc
        cases hc
        have := calls_reqs _ _ _ hd
        rw [List.map_map]
        exact this
    refine ⟨cs.map fun c : List (List Int) => c.headD [], Nat.zero_le _, by rw [List.drop_zero]; exact hr, h8, h4, ?_, ?_, Nat.le_refl _⟩
    · unfold PyZq92.answers
      rw [hc]
      simp only
      rw [played_replies]
      rfl
    · unfold PyFlat.atMost at h2
      have := of_decide_eq_true h2
      rw [List.length_map]
      omega
theorem going_end {l : List Int} {i : Nat} {w : SW} {k left : Nat} {xs : List (List Int)} {out : List Int} (G : Going l i w k left xs out) (h : ¬ i < l.length) : out = PyZq92.answers l := by
  have hr := G.reqs
  rw [List.drop_eq_nil_of_le (by omega)] at hr
  have ht := G.told
  cases hr
  have ht : out ++ [] = _ := ht
  rw [List.append_nil] at ht
  exact ht
theorem going_step {l : List Int} {i : Nat} {w : SW} {k left : Nat} {xs : List (List Int)} {out : List Int} (G : Going l i w k left xs out) (h : i < l.length) :
    ∃ x ys c, l[i + 1]? = some (x.length : Int) ∧ (l.drop (i + 2)).take x.length = x ∧ i + 2 + x.length ≤ l.length ∧ Rust.asked (Zq92Neutral.bytesOf x) = some c ∧ Rust.canBe w c = true ∧ Rust.tellable (R7285d.Spec.step w c).2 = true ∧ (Rust.step w (Zq92Neutral.bytesOf x)).2.length ≤ 65536 ∧ Zq92Neutral.asked1 x = true ∧ k < 200 ∧ out.length + (Rust.step w (Zq92Neutral.bytesOf x)).2.length ≤ 4000000 + k ∧
      Going l (i + 2 + x.length) (Rust.step w (Zq92Neutral.bytesOf x)).1 (k + 1) (left - (Rust.step w (Zq92Neutral.bytesOf x)).2.length) ys (out ++ (((Rust.step w (Zq92Neutral.bytesOf x)).2.length : Int) :: Zq92Neutral.numbersOf (Rust.step w (Zq92Neutral.bytesOf x)).2)) := by
  obtain ⟨le, reqs, goes, byte, told, few, room⟩ := G
  generalize hd : l.drop i = d at reqs
  cases reqs with
  | nil =>
    have := congrArg List.length hd
    rw [List.length_drop] at this
    simp at this
    omega
  | @cons x s ys hr =>
    have hlen : l.length = i + (2 + (x.length + s.length)) := by
      have := congrArg List.length hd
      rw [List.length_drop, List.length_cons, List.length_cons, List.length_append] at this
      omega
    have d1 : l[i + 1]? = some (x.length : Int) := by
      rw [← List.getElem?_drop, hd]
      rfl
    have d2 : l.drop (i + 2) = x ++ s := by
      rw [← List.drop_drop, hd]
      rfl
    have d3 : l.drop (i + 2 + x.length) = s := by
      rw [← List.drop_drop, d2]
      simp
    rw [List.map_cons] at goes
    unfold Rust.goes at goes
    cases hc : Rust.asked (Zq92Neutral.bytesOf x) with
    | none => rw [hc] at goes; cases goes
    | some c =>
      rw [hc] at goes
      simp only [Bool.and_eq_true] at goes
      obtain ⟨⟨⟨⟨g1, g2⟩, g3⟩, g4⟩, g5⟩ := goes
      have g3 := Nat.le_of_ble_eq_true g3
      have g4 := Nat.le_of_ble_eq_true g4
      have es := step_asked hc g1
      have e1 : (Rust.step w (Zq92Neutral.bytesOf x)).1 = (R7285d.Spec.step w c).1 := by rw [es]
      rw [List.all_cons, Bool.and_eq_true] at byte
      rw [List.length_cons] at few
      refine ⟨x, ys, c, d1, ?_, by omega, hc, g1, g2, g3, byte.1, by omega, by omega, ⟨by omega, by rw [d3]; exact hr, by rw [e1]; exact g5, byte.2, ?_, by omega, ?_⟩⟩
      · rw [d2]
        simp
      · rw [← told]
        show _ = out ++ PyFlat.told (Zq92Neutral.numbersOf (Rust.step w (Zq92Neutral.bytesOf x)).2 :: Zq92Neutral.replies (Rust.step w (Zq92Neutral.bytesOf x)).1 ys)
        have ln : (Zq92Neutral.numbersOf (Rust.step w (Zq92Neutral.bytesOf x)).2).length = (Rust.step w (Zq92Neutral.bytesOf x)).2.length := by
          unfold Zq92Neutral.numbersOf
          rw [List.length_map]
        rw [told_cons, List.append_assoc, ln]
      · rw [List.length_append, List.length_cons]
        have ln : (Zq92Neutral.numbersOf (Rust.step w (Zq92Neutral.bytesOf x)).2).length = (Rust.step w (Zq92Neutral.bytesOf x)).2.length := by
          unfold Zq92Neutral.numbersOf
          rw [List.length_map]
        rw [ln]
        omega
theorem oct_bytes {x : List Int} (h : Zq92Neutral.asked1 x = true) : octV (Zq92Neutral.bytesOf x) = x.map V.int := by
  unfold octV Zq92Neutral.bytesOf
  rw [List.map_map]
  refine List.map_congr_left fun n hn => ?_
  have := List.all_eq_true.mp h n hn
  simp only [Bool.and_eq_true, decide_eq_true_eq] at this
  show V.int (((UInt8.ofNat n.toNat).toNat : Nat) : Int) = V.int n
  rw [UInt8.toNat_ofNat']
  congr 1
  have e : n.toNat % 2 ^ 8 = n.toNat := Nat.mod_eq_of_lt (by omega)
  rw [e]
  omega
theorem oct_numbers (u : List UInt8) : octV u = (Zq92Neutral.numbersOf u).map V.int := by
  unfold octV Zq92Neutral.numbersOf
  rw [List.map_map]
  rfl
theorem cut_mid {l x : List Int} {i : Nat} (h : (l.drop (i + 2)).take x.length = x) (hl : i + 2 + x.length ≤ l.length) : cutV (l.map V.int) (some ((i : Int) + 2)) (some ((i : Int) + 2 + (x.length : Nat))) = x.map V.int := by
  have c1 : (i : Int) + 2 = ((i + 2 : Nat) : Int) := rfl
  have c2 : (i : Int) + 2 + (x.length : Nat) = ((i + 2 + x.length : Nat) : Int) := rfl
  rw [c2, c1]
  unfold cutV
  rw [HT.sIx_nat, HT.sIx_nat, List.length_map, Nat.min_eq_left (by omega), Nat.min_eq_left (by omega)]
  rw [← List.map_drop, ← List.map_take, show i + 2 + x.length - (i + 2) = x.length by omega, h]
end CT

namespace CT
open PySem PySem.Spec PyProof.Rows L2
section
variable {P : Program} {w : World} {K : PySem.W.Frag} {mg : PySem.Str → Option Value} {base : Heap}
def spAnswers (K : PySem.W.Frag) : Sp := sp1 fun x H Q _ => ∃ p l, x = .ref p ∧ SqL K H p (l.map V.int) ∧ l.length ≤ 61000 ∧ PyZq92.answers_asked l = true ∧ ∀ H' a, H' a = some (.lst ((PyZq92.answers l).map V.int)) → Q (.ref a) H'
abbrev n_answers : List PySem.Str := ["calls", "shelf", "found", "place", "length", "told"]
theorem sc_answers : FnScope n_answers ["calls"] d_answers.scope := ⟨rfl, rfl, rfl, by decide +kernel, rfl, by decide +kernel, by decide +kernel⟩
theorem fn_answers (T : Tx w K mg) {fd : FuncData} (F : FunD K d_answers.name d_answers.qual d_answers.params d_answers.body d_answers.scope [] [] (He.fAd K d_answers.at_) fd) : FnOk P w K mg base CX0 73 (He.fAd K d_answers.at_) fd ["calls"] (spAnswers K) := by
  refine F.ok sc_answers (fun _ _ _ _ h => sp1_len h) (fun cdv A outer s H vs Q E hr h => ?_)
  generalize He.fAd K d_answers.at_ = f at hr ⊢
  obtain ⟨_, rfl, p, l, rfl, hp, lsm, hak, q⟩ := h
  refine ⟨_, PSs.nox ((pss_cons (ps_set (i := 1) sc_answers.nd rfl (Or.inl rfl) (pe_new0 (new_Shelf T) hr (by decide) rfl))
      (pss_cons (ps_set (i := 2) sc_answers.nd rfl (Or.inl rfl) (pe_lst pa_nil))
      (pss_cons (ps_set (i := 3) sc_answers.nd rfl (Or.inl rfl) pe_int)
      (pss_cons (ps_while PassesOwn.never (pt_cmpR op_lt (pv 3) (pe_callB call_len_seq rfl T.f_len boot_len (pa_cons (pv 0) pa_nil)) (nomark _)) (pss_cons (ps_set (i := 4) sc_answers.nd rfl (Or.inl rfl) (pe_ix ix_list (pv 0) (pe_op op_add (pv 3) pe_int) (fun _ _ => rfl)))
      (pss_cons (ps_set (i := 5) sc_answers.nd rfl (Or.inl rfl) (pe_cal (c_answer T) hr (by decide) rfl passC (pa_cons (pv 1) (pa_cons (pe_callTy call_list_of rfl T.f_list (by decide +kernel) (pa_cons (pe_slice sl_list (pv 0) (po_some (pe_op op_add (pv 3) pe_int)) (po_some (pe_op op_add (pe_op op_add (pv 3) pe_int) (pv 4)))) pa_nil)) pa_nil))))
      (pss_cons (ps_expr (pe_bm PySem.F.plainAttrs_list PySem.F.slot_list_append PySem.F.type_list_append mt_append (pv 2) (pa_cons (pe_callB call_len_seq rfl T.f_len boot_len (pa_cons (pv 5) pa_nil)) pa_nil)))
      (pss_cons (ps_expr (pe_bm PySem.F.plainAttrs_list PySem.F.slot_list_extend PySem.F.type_list_extend mt_extend (pv 2) (pa_cons (pv 5) pa_nil)))
      (pss_one (ps_aug (i := 3) sc_answers.nd rfl (Or.inl rfl) (pe_op op_add pe_int (pv 4)) ip_add)))))))
      (pss_one (ps_ret (pv 2)))))))), ?_⟩
  obtain ⟨xs0, G0⟩ := going_start hak
  refine ⟨rfl, fun H1 a dx pl rl wl s1 na np nr nw d1 d2 d3 h1 h2 h3 h4 => ?_⟩
  have D0 := DAt.start (K := K) h1 h2 h3 h4 d1 d2 d3 10000
  refine ⟨lineOf (by show 0 ≤ 1000; decide), fun B nB => ?_⟩
  obtain ⟨D1, st1⟩ := D0.newOut (o := .lst []) nB
  have hs1 := Same.seq (rest_noS.trans (rest_stp ((start_stp (K := K) (dx := dx) s1 na np nr nw).trans st1))) hp
  refine ⟨fun r σ H2 => ∃ i k left xs out wd S Ad o4 o5, r = l.length - i ∧ Going l i wd k left xs out ∧ DAt K H2 S Ad wd (10000 + k) ∧ Ad.a = a ∧ S .out B = some (.lst (out.map V.int)) ∧ SqL K (rest H2 S) p (l.map V.int) ∧ σ = [some (.ref p), some (.ref a), some (.ref B), some (natV i), o4, o5],
    ⟨_, 0, 0, _, _, _, _, _, _, _, _, rfl, G0, D1, rfl, sing_at, hs1, rfl⟩, ?_⟩
  rintro r σ H2 ⟨i, k, left, xs, out, wd, S, Ad, o4, o5, rfl, G, D, eA, hO, hs, rfl⟩
  have hs' := Same.seq rest_in hs
  have hB := D.fam.sub _ _ _ hO
  refine ⟨_, rfl, _, rfl, p, _, rfl, .inl hs', _, _, rfl, rfl, _, rfl, ?_⟩
  by_cases c : i < l.length
  · refine if_t (decide_eq_true (by rw [List.length_map]; omega)) ?_
    obtain ⟨x, ys, cl, g1, g2, g3, g4, g5, g6, g7, g8, g9, g10, g11⟩ := going_step G c
    refine ⟨fun σ' H' => ∃ out wd S Ad o4 o5 left, Going l (i + 2 + x.length) wd (k + 1) left ys out ∧ DAt K H' S Ad wd (10000 + (k + 1)) ∧ Ad.a = a ∧ S .out B = some (.lst (out.map V.int)) ∧ SqL K (rest H' S) p (l.map V.int) ∧ σ' = [some (.ref p), some (.ref a), some (.ref B), some (natV (i + 2 + x.length)), o4, o5], ?_, ?_⟩
    · rintro σ' H' ⟨out', wd', S', Ad', o4', o5', left', e1, e2, e3, e4, e5, e6⟩
      exact ⟨l.length - (i + 2 + x.length), by omega, _, _, _, _, _, _, _, _, _, _, rfl, e1, e2, e3, e4, e5, e6⟩
    refine ⟨_, rfl, _, rfl, _, _, rfl, rfl, r_atE (i := i + 1) hs' rfl (mapInt g1) ?_⟩
    refine ⟨_, rfl, _, rfl, _, rfl, _, _, rfl, rfl, _, rfl, _, rfl, _, _, rfl, rfl, _, rfl, _, _, rfl, rfl, _, rfl, p, _, rfl, hs', fun c0 nc0 => ?_⟩
    rw [cut_mid g2 g3, ← oct_bytes g8]
    have t0 := same_new (o := .lst (octV (Zq92Neutral.bytesOf x))) nc0
    refine ⟨c0, _, rfl, .inl (SqL.of upd_same), fun c1 nc1 => ?_⟩
    have t1 := same_new (o := .lst (octV (Zq92Neutral.bytesOf x))) nc1
    have lb : (Zq92Neutral.bytesOf x).length = x.length := by
      unfold Zq92Neutral.bytesOf
      rw [List.length_map]
    refine ⟨_, _, rfl, S, Ad, wd, 10000 + k, c1, Zq92Neutral.bytesOf x, cl, by rw [eA], rfl, D.same (t0.trans t1), by omega, by omega, upd_same, by rw [lb]; omega, g4, g5, g6, g7, fun H4 S4 A4 t eA4 st4 D4 ht nt => ?_⟩
    have hO4 : S4 .out B = some (.lst (out.map V.int)) := by rw [st4.out]; exact hO
    have hB4 := D4.fam.sub _ _ _ hO4
    have ht4 := rest_in _ _ ht
    obtain ⟨D5, st5⟩ := D4.wrOut hO4 (out.map V.int ++ [V.int ((octV (Rust.step wd (Zq92Neutral.bytesOf x)).2).length : Nat)])
    have hO5 : (putS S4 .out (upd (S4 .out) B (.lst (out.map V.int ++ [V.int ((octV (Rust.step wd (Zq92Neutral.bytesOf x)).2).length : Nat)])))) .out B = some (.lst (out.map V.int ++ [V.int ((octV (Rust.step wd (Zq92Neutral.bytesOf x)).2).length : Nat)])) := by
      rw [putS_same]
      exact upd_same
    have ht5 := rest_in _ _ (rest_stp st5 _ _ ht)
    obtain ⟨D6, st6⟩ := D5.wrOut hO5 ((out.map V.int ++ [V.int ((octV (Rust.step wd (Zq92Neutral.bytesOf x)).2).length : Nat)]) ++ octV (Rust.step wd (Zq92Neutral.bytesOf x)).2)
    refine ⟨_, rfl, .inl ⟨rfl, _, SqL.of hB4⟩, _, rfl, t, _, rfl, .inl (SqL.of ht4), B, _, _, rfl, rfl, hB4, ?_, ?_⟩
    · rw [List.length_map, sizeLine_eq]
      omega
    refine ⟨_, rfl, .inl ⟨rfl, _, SqL.of upd_same⟩, _, rfl, B, t, _, _, rfl, rfl, upd_same, ht5, ?_, ?_⟩
    · rw [List.length_append, List.length_map, octV_len, sizeLine_eq, List.length_singleton]
      omega
    refine ⟨_, rfl, _, rfl, _, _, rfl, rfl, _, _, rfl, rfl, ?_⟩
    refine ⟨_, _, _, A4, some (V.int ((x.length : Nat) : Int)), some (V.ref t), _, g11, D6, by rw [eA4, eA], ?_, ?_, ?_⟩
    · rw [putS_same, upd_same]
      congr 2
      rw [List.map_append, List.map_cons, ← oct_numbers, octV_len, List.append_assoc]
      rfl
    · exact Same.seq (((rest_same (t0.trans t1)).trans (rest_stp st4.stp)).trans ((rest_stp st5).trans (rest_stp st6))) hs
    · have ep : V.int ((i : Int) + (2 + ((x.length : Nat) : Int))) = natV (i + 2 + x.length) := congrArg V.int (by omega)
      rw [← ep]
      rfl
  · refine if_f (decide_eq_false (by rw [List.length_map]; omega)) ⟨_, rfl, q H2 B ?_⟩
    rw [hB, going_end G c]
end
end CT


namespace CT
open PySem PySem.Spec PyProof.Rows L2
open PySem.W (WData Codec OpenSpec Well WellAll ReadsW ReadsAllW)
/-- the call of the row's def from its promise; the written part is found behind the top -/
theorem walk_by {r : OpenSpec} {k : Nat} {q : Program} {loose : List PySem.Str} {XP : (PySem.Str → Option Value) → Heap → Prop} {d : DefRec} {ps : List PySem.Str} {sp : PySem.W.Frag → Sp} {CX : CXT}
    (hwell : r.wellSaid = true) (hlen : r.args.length = ps.length) (hr : Room k callerA)
    (F : ∀ (w : World) (K : PySem.W.Frag) (mg : PySem.Str → Option Value) (fa : Addr), Tx w K mg → mg d.name = some (.ref fa) →
      ∃ fd : FuncData, (∀ (s : Shared) (us : List Value), us.length = ps.length → BindsTo s fd ⟨us, []⟩ (ps.zip us)) ∧
        ∀ base : Heap, K.In base → base.Ns mainGlobals mg → FnOk r.prog w K mg base CX k fa fd ps (sp K))
    (hsp : ∀ (K : PySem.W.Frag) (H : Hp) (xs : List V) (a : Codec.denoteAll r.args), OnlyF H → Codec.withinAll r.args a = true → Codec.app r.args r.asked a = true → DwAll K H xs (Codec.encAll r.args a) →
      sp K xs H (fun v H' => Dw K H' v (r.ret.enc (Codec.app r.args r.f a))) fun _ _ _ => False)
    (hCX : ∀ (H : Hp) (s : Shared) (e : Value) (s' : Shared), CX [] H s (fun _ _ _ => False) e s' → False) :
    PySem.W.WalkOS q loose XP hkC.says r d [] (fun f vs => PySem.call f vs) := by
  intro w s₀ s₁ mg mb G Y fa o pm cd doc dV kV ho hd hcd hD hmg hg args vals as hpre hlay hrd hwl hlo
  obtain ⟨K, KX, c⟩ := Y
  obtain ⟨a, e1, e2⟩ := PySem.W.os_pre_some hpre
  obtain ⟨rfl, hwi⟩ := Codec.encAll_of_decAll r.args args a e1
  obtain ⟨fd, hb, hF⟩ := F w K mg fa ⟨c, _, KX, G.T.g⟩ hmg
  have main := spec_call (R := []) (cl := classAt s₀.heap) (d0 := r.ret.enc (Codec.app r.args r.f a)) KX G.T.g G.T.b G.T.builtins G.T.nolimit hg hwl (pl_encAll _ _) (layable_weight hlay) hr hF hb (by rw [encAll_len]; exact hlen)
    (fun H xs hO hS => hsp K H xs a hO hwi e2 hS) fun H e s' => hCX H s₁ e s'
  refine PySem.W.enter_call (codeAny_mono main fun r' s' hq => ?_)
  obtain ⟨u, as', rfl, h1, h2, h3, h4⟩ := hq
  refine ⟨.inl ⟨u, _, as', rfl, fun _ => rfl, h1, ?_, fun z => Bool.noConfusion (show false = true from z)⟩, h2, h3, h4⟩
  exact (OpenSpec.post_iff hwell hwi _ _).mpr rfl
end CT
open PySem PySem.W PySem.Calls PyProof.Rows
theorem PySem.Challenge.cw_clockedthreads_s01_answers_holds : PySem.Challenge.rw_clockedthreads_s01_answers.Holds := by
  w_on
  refine HandSHeadRun.head_spec (r := CT.R) (q := view CT.R.prog [124]) (H := CT.hkC) (ob := CT.obT) (M := 5400) (loose := CT.nms) (d := HandSHeadRun.topDef CT.R.prog 124) (kwd := []) CT.obT_eq
    (by kernel_rfl) (fun s => by kernel_rfl) CT.run_all (by kernel_rfl) (by kernel_rfl) (by kernel_rfl) os_shapes (by decide +kernel) (by decide +kernel) ⟨rfl, rfl, rfl, rfl, rfl, by decide +kernel⟩ ?hw ?hc
  case hw => exact ⟨[.list ([0, 12, 0, 0, 1, 4, 0, 0, 0, 0, 0, 0, 0, 0].map WData.int)], by decide +kernel, by decide +kernel⟩
  case hc =>
    refine CT.walk_by (k := 73) (ps := ["calls"]) (sp := CT.spAnswers) (CX := L2.CX0) (by decide +kernel) rfl ⟨rfl, by decide, by decide⟩ ?F ?S (fun _ _ _ _ z => z)
    case F =>
      intro w K mg fa T hm
      have e : fa = He.fAd K CT.d_answers.at_ := by
        have g := T.g_answers
        have h : mg "answers" = some (.ref fa) := hm
        rw [g] at h
        cases h
        rfl
      subst e
      obtain ⟨fd, F⟩ := T.fd_answers
      exact ⟨fd, F.bindsA (fun _ _ _ _ _ _ us hl => match us, hl with | [_], _ => rfl), fun base _ _ => CT.fn_answers T F⟩
    case S =>
      intro K H xs a hO hwi hask hx
      cases hx with
      | cons h1 h2 =>
        cases h2
        cases h1 with
        | lst hs ha =>
          have e := L2.ints_dw a.1 _ ha
          subst e
          have q : ((Codec.inLen 0 61000 a.1 && a.1.all (Codec.inInt 0 65535)) && true) = true := hwi
          rw [Bool.and_eq_true, Bool.and_eq_true] at q
          exact ⟨_, rfl, _, a.1, rfl, hs, (Codec.inNat_iff.mp q.1.1).2, hask, fun H' p hp => .lst (L2.SqL.of hp) (L2.dw_ints _)⟩
#print axioms PySem.Challenge.cw_clockedthreads_s01_answers_holds

