import PyProof.Rows.All
import Wide.All
import OpenK.AllK
import Wide.FinOn
import PyProof.EqAt
import PyProof.EqKinds
import PyProof.NeKinds
import PyProof.TupleCall
import Open.SpecLaws
import KE.OsGo
import KE.SortData
import HandS.ForSpec
import HandS.Comp
import HandS.Iter
import HandS.Zip
import HandS.Text
import HandS.Sort
import HandS.SortOrd
import HandS.SortRule
import HandS.Wide
import HandS.More
import HandS.ExcInit
import HandS.ExcField
import HandS.CallLocal
import HandS.Defaults
import HandS.Head0
import HandS.Head1
import HandS.Head2
import HandS.Head3
import HandS.Head4
import HandS.HeadHook1
import HandS.HeadHook2
import HandS.Evl
import HandS.Walk
import HandS.Style
import KE.GoesMore
import KE.GoesZip
import KE.GoesEnum
import HandS.ExcOwn
import HandS.Exc
import HandS.TryOnly
import HandS.WordsExc
import PySem.Challenge.RW_hedgedcalls_s01_answers
set_option Elab.async false
set_option linter.all false
set_option maxRecDepth 100000
set_option maxHeartbeats 4000000
namespace Hc
open PySem PySem.Spec PyProof.Rows L2
/-! ### the text -/
def topS (i : Nat) : Stmt := PySem.Challenge.pw_hedgedcalls_s01_answers.main.body.getD i (.Pass ⟨0, 0, 0, 0⟩)
abbrev s_bytes_of_key : Stmt := topS 7
abbrev s_key_hash : Stmt := topS 8
abbrev s_Backend_init : Stmt := inClass (topS 9) 0
abbrev s_Backend_is_ejected : Stmt := inClass (topS 9) 1
abbrev s_Backend_is_available : Stmt := inClass (topS 9) 2
abbrev s_Backend_eject : Stmt := inClass (topS 9) 3
abbrev s_greatest : Stmt := topS 10
abbrev s_from_pointer : Stmt := topS 11
abbrev s_choice : Stmt := topS 12
abbrev s_shift_weights : Stmt := topS 13
abbrev s_ranked : Stmt := topS 14
abbrev s_is_within : Stmt := topS 20
abbrev s_is_status : Stmt := topS 21
abbrev s_are_parameters : Stmt := topS 22
abbrev s_Policy_init : Stmt := inClass (topS 23) 0
abbrev s_Policy_most_tokens : Stmt := inClass (topS 23) 1
abbrev s_Policy_does_allow : Stmt := inClass (topS 23) 2
abbrev s_Policy_backoff_bound : Stmt := inClass (topS 23) 3
abbrev s_told_or_nothing : Stmt := topS 28
abbrev s_Call_init : Stmt := inClass (topS 29) 0
abbrev s_Call_is_open : Stmt := inClass (topS 29) 1
abbrev s_Call_running : Stmt := inClass (topS 29) 2
abbrev s_Call_has_used : Stmt := inClass (topS 29) 3
abbrev s_Call_told_status : Stmt := inClass (topS 29) 4
abbrev s_Call_timers : Stmt := inClass (topS 29) 5
abbrev s_Attempt_init : Stmt := inClass (topS 30) 0
abbrev s_Attempt_leave : Stmt := inClass (topS 30) 1
abbrev s_Client_init : Stmt := inClass (topS 43) 0
abbrev s_Client_active : Stmt := inClass (topS 43) 1
abbrev s_Client_available : Stmt := inClass (topS 43) 2
abbrev s_Client_running_now : Stmt := inClass (topS 43) 3
abbrev s_Client_is_allowed : Stmt := inClass (topS 43) 4
abbrev s_Client_general_candidates : Stmt := inClass (topS 43) 5
abbrev s_Client_candidates : Stmt := inClass (topS 43) 6
abbrev s_Client_choose : Stmt := inClass (topS 43) 7
abbrev s_Client_start_attempt : Stmt := inClass (topS 43) 8
abbrev s_Client_hedge_time : Stmt := inClass (topS 43) 9
abbrev s_Client_end_call : Stmt := inClass (topS 43) 10
abbrev s_Client_fail_backend : Stmt := inClass (topS 43) 11
abbrev s_Client_is_to_eject : Stmt := inClass (topS 43) 12
abbrev s_Client_end_attempt : Stmt := inClass (topS 43) 13
abbrev s_Client_follow_failure : Stmt := inClass (topS 43) 14
abbrev s_Client_is_retryable : Stmt := inClass (topS 43) 15
abbrev s_Client_retry_or_end : Stmt := inClass (topS 43) 16
abbrev s_Client_delay : Stmt := inClass (topS 43) 17
abbrev s_Client_all_timers : Stmt := inClass (topS 43) 18
abbrev s_Client_fire : Stmt := inClass (topS 43) 19
abbrev s_Client_fire_until : Stmt := inClass (topS 43) 20
abbrev s_Client_open_call : Stmt := inClass (topS 43) 21
abbrev s_Refused_init : Stmt := inClass (topS 51) 0
abbrev s_need : Stmt := topS 52
abbrev s_active_backend : Stmt := topS 64
abbrev s_add_backend : Stmt := topS 65
abbrev s_remove_backend : Stmt := topS 66
abbrev s_set_weight : Stmt := topS 67
abbrev s_start_call : Stmt := topS 68
abbrev s_complete : Stmt := topS 69
abbrev s_cancel : Stmt := topS 70
abbrev s_advance : Stmt := topS 71
abbrev s_run_one : Stmt := topS 72
abbrev s_run : Stmt := topS 73
abbrev s_with_count : Stmt := topS 77
abbrev s_next_timer : Stmt := topS 78
abbrev s_call_info : Stmt := topS 79
abbrev s_attempt_info : Stmt := topS 80
abbrev s_call_attempts : Stmt := topS 81
abbrev s_backend_info : Stmt := topS 82
abbrev s_running_attempts : Stmt := topS 83
abbrev s_preview_choice : Stmt := topS 84
abbrev s_ranking : Stmt := topS 85
abbrev s_told_hash : Stmt := topS 86
abbrev s_available_backends : Stmt := topS 87
abbrev s_told_bound : Stmt := topS 88
abbrev s_budget : Stmt := topS 89
abbrev s_totals : Stmt := topS 90
abbrev s_told_state : Stmt := topS 91
abbrev s_new_client : Stmt := topS 101
abbrev s_operated : Stmt := topS 102
abbrev s_Request_init : Stmt := inClass (topS 103) 0
abbrev s_Request_does : Stmt := inClass (topS 103) 1
abbrev s_Request_answer : Stmt := inClass (topS 103) 2
abbrev s_answers : Stmt := topS 104
/-! ### what the top leaves: the facts -/
def d_bytes_of_key : He.DefD := ⟨("bytes_of_key", none), "bytes_of_key", "bytes_of_key", defArgs s_bytes_of_key, defBody s_bytes_of_key, defScope s_bytes_of_key, [], []⟩
def d_key_hash : He.DefD := ⟨("key_hash", none), "key_hash", "key_hash", defArgs s_key_hash, defBody s_key_hash, defScope s_key_hash, [], []⟩
def d_Backend_init : He.DefD := ⟨("Backend", some "__init__"), "__init__", "Backend.__init__", defArgs s_Backend_init, defBody s_Backend_init, defScope s_Backend_init, [], []⟩
def d_Backend_is_ejected : He.DefD := ⟨("Backend", some "is_ejected"), "is_ejected", "Backend.is_ejected", defArgs s_Backend_is_ejected, defBody s_Backend_is_ejected, defScope s_Backend_is_ejected, [], []⟩
def d_Backend_is_available : He.DefD := ⟨("Backend", some "is_available"), "is_available", "Backend.is_available", defArgs s_Backend_is_available, defBody s_Backend_is_available, defScope s_Backend_is_available, [], []⟩
def d_Backend_eject : He.DefD := ⟨("Backend", some "eject"), "eject", "Backend.eject", defArgs s_Backend_eject, defBody s_Backend_eject, defScope s_Backend_eject, [], []⟩
def d_greatest : He.DefD := ⟨("greatest", none), "greatest", "greatest", defArgs s_greatest, defBody s_greatest, defScope s_greatest, [], []⟩
def d_from_pointer : He.DefD := ⟨("from_pointer", none), "from_pointer", "from_pointer", defArgs s_from_pointer, defBody s_from_pointer, defScope s_from_pointer, [], []⟩
def d_choice : He.DefD := ⟨("choice", none), "choice", "choice", defArgs s_choice, defBody s_choice, defScope s_choice, [], []⟩
def d_shift_weights : He.DefD := ⟨("shift_weights", none), "shift_weights", "shift_weights", defArgs s_shift_weights, defBody s_shift_weights, defScope s_shift_weights, [], []⟩
def d_ranked : He.DefD := ⟨("ranked", none), "ranked", "ranked", defArgs s_ranked, defBody s_ranked, defScope s_ranked, [], []⟩
def d_is_within : He.DefD := ⟨("is_within", none), "is_within", "is_within", defArgs s_is_within, defBody s_is_within, defScope s_is_within, [], []⟩
def d_is_status : He.DefD := ⟨("is_status", none), "is_status", "is_status", defArgs s_is_status, defBody s_is_status, defScope s_is_status, [], []⟩
def d_are_parameters : He.DefD := ⟨("are_parameters", none), "are_parameters", "are_parameters", defArgs s_are_parameters, defBody s_are_parameters, defScope s_are_parameters, [], []⟩
def d_Policy_init : He.DefD := ⟨("Policy", some "__init__"), "__init__", "Policy.__init__", defArgs s_Policy_init, defBody s_Policy_init, defScope s_Policy_init, [], []⟩
def d_Policy_most_tokens : He.DefD := ⟨("Policy", some "most_tokens"), "most_tokens", "Policy.most_tokens", defArgs s_Policy_most_tokens, defBody s_Policy_most_tokens, defScope s_Policy_most_tokens, [], []⟩
def d_Policy_does_allow : He.DefD := ⟨("Policy", some "does_allow"), "does_allow", "Policy.does_allow", defArgs s_Policy_does_allow, defBody s_Policy_does_allow, defScope s_Policy_does_allow, [], []⟩
def d_Policy_backoff_bound : He.DefD := ⟨("Policy", some "backoff_bound"), "backoff_bound", "Policy.backoff_bound", defArgs s_Policy_backoff_bound, defBody s_Policy_backoff_bound, defScope s_Policy_backoff_bound, [], []⟩
def d_told_or_nothing : He.DefD := ⟨("told_or_nothing", none), "told_or_nothing", "told_or_nothing", defArgs s_told_or_nothing, defBody s_told_or_nothing, defScope s_told_or_nothing, [], []⟩
def d_Call_init : He.DefD := ⟨("Call", some "__init__"), "__init__", "Call.__init__", defArgs s_Call_init, defBody s_Call_init, defScope s_Call_init, [], []⟩
def d_Call_is_open : He.DefD := ⟨("Call", some "is_open"), "is_open", "Call.is_open", defArgs s_Call_is_open, defBody s_Call_is_open, defScope s_Call_is_open, [], []⟩
def d_Call_running : He.DefD := ⟨("Call", some "running"), "running", "Call.running", defArgs s_Call_running, defBody s_Call_running, defScope s_Call_running, [], []⟩
def d_Call_has_used : He.DefD := ⟨("Call", some "has_used"), "has_used", "Call.has_used", defArgs s_Call_has_used, defBody s_Call_has_used, defScope s_Call_has_used, [], []⟩
def d_Call_told_status : He.DefD := ⟨("Call", some "told_status"), "told_status", "Call.told_status", defArgs s_Call_told_status, defBody s_Call_told_status, defScope s_Call_told_status, [], []⟩
def d_Call_timers : He.DefD := ⟨("Call", some "timers"), "timers", "Call.timers", defArgs s_Call_timers, defBody s_Call_timers, defScope s_Call_timers, [], []⟩
def d_Attempt_init : He.DefD := ⟨("Attempt", some "__init__"), "__init__", "Attempt.__init__", defArgs s_Attempt_init, defBody s_Attempt_init, defScope s_Attempt_init, [], []⟩
def d_Attempt_leave : He.DefD := ⟨("Attempt", some "leave"), "leave", "Attempt.leave", defArgs s_Attempt_leave, defBody s_Attempt_leave, defScope s_Attempt_leave, [], []⟩
def d_Client_init : He.DefD := ⟨("Client", some "__init__"), "__init__", "Client.__init__", defArgs s_Client_init, defBody s_Client_init, defScope s_Client_init, [], []⟩
def d_Client_active : He.DefD := ⟨("Client", some "active"), "active", "Client.active", defArgs s_Client_active, defBody s_Client_active, defScope s_Client_active, [], []⟩
def d_Client_available : He.DefD := ⟨("Client", some "available"), "available", "Client.available", defArgs s_Client_available, defBody s_Client_available, defScope s_Client_available, [], []⟩
def d_Client_running_now : He.DefD := ⟨("Client", some "running_now"), "running_now", "Client.running_now", defArgs s_Client_running_now, defBody s_Client_running_now, defScope s_Client_running_now, [], []⟩
def d_Client_is_allowed : He.DefD := ⟨("Client", some "is_allowed"), "is_allowed", "Client.is_allowed", defArgs s_Client_is_allowed, defBody s_Client_is_allowed, defScope s_Client_is_allowed, [], []⟩
def d_Client_general_candidates : He.DefD := ⟨("Client", some "general_candidates"), "general_candidates", "Client.general_candidates", defArgs s_Client_general_candidates, defBody s_Client_general_candidates, defScope s_Client_general_candidates, [], []⟩
def d_Client_candidates : He.DefD := ⟨("Client", some "candidates"), "candidates", "Client.candidates", defArgs s_Client_candidates, defBody s_Client_candidates, defScope s_Client_candidates, [], []⟩
def d_Client_choose : He.DefD := ⟨("Client", some "choose"), "choose", "Client.choose", defArgs s_Client_choose, defBody s_Client_choose, defScope s_Client_choose, [], []⟩
def d_Client_start_attempt : He.DefD := ⟨("Client", some "start_attempt"), "start_attempt", "Client.start_attempt", defArgs s_Client_start_attempt, defBody s_Client_start_attempt, defScope s_Client_start_attempt, [], []⟩
def d_Client_hedge_time : He.DefD := ⟨("Client", some "hedge_time"), "hedge_time", "Client.hedge_time", defArgs s_Client_hedge_time, defBody s_Client_hedge_time, defScope s_Client_hedge_time, [], []⟩
def d_Client_end_call : He.DefD := ⟨("Client", some "end_call"), "end_call", "Client.end_call", defArgs s_Client_end_call, defBody s_Client_end_call, defScope s_Client_end_call, [], []⟩
def d_Client_fail_backend : He.DefD := ⟨("Client", some "fail_backend"), "fail_backend", "Client.fail_backend", defArgs s_Client_fail_backend, defBody s_Client_fail_backend, defScope s_Client_fail_backend, [], []⟩
def d_Client_is_to_eject : He.DefD := ⟨("Client", some "is_to_eject"), "is_to_eject", "Client.is_to_eject", defArgs s_Client_is_to_eject, defBody s_Client_is_to_eject, defScope s_Client_is_to_eject, [], []⟩
def d_Client_end_attempt : He.DefD := ⟨("Client", some "end_attempt"), "end_attempt", "Client.end_attempt", defArgs s_Client_end_attempt, defBody s_Client_end_attempt, defScope s_Client_end_attempt, [], []⟩
def d_Client_follow_failure : He.DefD := ⟨("Client", some "follow_failure"), "follow_failure", "Client.follow_failure", defArgs s_Client_follow_failure, defBody s_Client_follow_failure, defScope s_Client_follow_failure, [], []⟩
def d_Client_is_retryable : He.DefD := ⟨("Client", some "is_retryable"), "is_retryable", "Client.is_retryable", defArgs s_Client_is_retryable, defBody s_Client_is_retryable, defScope s_Client_is_retryable, [], []⟩
def d_Client_retry_or_end : He.DefD := ⟨("Client", some "retry_or_end"), "retry_or_end", "Client.retry_or_end", defArgs s_Client_retry_or_end, defBody s_Client_retry_or_end, defScope s_Client_retry_or_end, [], []⟩
def d_Client_delay : He.DefD := ⟨("Client", some "delay"), "delay", "Client.delay", defArgs s_Client_delay, defBody s_Client_delay, defScope s_Client_delay, [], []⟩
def d_Client_all_timers : He.DefD := ⟨("Client", some "all_timers"), "all_timers", "Client.all_timers", defArgs s_Client_all_timers, defBody s_Client_all_timers, defScope s_Client_all_timers, [], []⟩
def d_Client_fire : He.DefD := ⟨("Client", some "fire"), "fire", "Client.fire", defArgs s_Client_fire, defBody s_Client_fire, defScope s_Client_fire, [], []⟩
def d_Client_fire_until : He.DefD := ⟨("Client", some "fire_until"), "fire_until", "Client.fire_until", defArgs s_Client_fire_until, defBody s_Client_fire_until, defScope s_Client_fire_until, [], []⟩
def d_Client_open_call : He.DefD := ⟨("Client", some "open_call"), "open_call", "Client.open_call", defArgs s_Client_open_call, defBody s_Client_open_call, defScope s_Client_open_call, [], []⟩
def d_Refused_init : He.DefD := ⟨("Refused", some "__init__"), "__init__", "Refused.__init__", defArgs s_Refused_init, defBody s_Refused_init, defScope s_Refused_init, [], []⟩
def d_need : He.DefD := ⟨("need", none), "need", "need", defArgs s_need, defBody s_need, defScope s_need, [], []⟩
def d_active_backend : He.DefD := ⟨("active_backend", none), "active_backend", "active_backend", defArgs s_active_backend, defBody s_active_backend, defScope s_active_backend, [], []⟩
def d_add_backend : He.DefD := ⟨("add_backend", none), "add_backend", "add_backend", defArgs s_add_backend, defBody s_add_backend, defScope s_add_backend, [], []⟩
def d_remove_backend : He.DefD := ⟨("remove_backend", none), "remove_backend", "remove_backend", defArgs s_remove_backend, defBody s_remove_backend, defScope s_remove_backend, [], []⟩
def d_set_weight : He.DefD := ⟨("set_weight", none), "set_weight", "set_weight", defArgs s_set_weight, defBody s_set_weight, defScope s_set_weight, [], []⟩
def d_start_call : He.DefD := ⟨("start_call", none), "start_call", "start_call", defArgs s_start_call, defBody s_start_call, defScope s_start_call, [], []⟩
def d_complete : He.DefD := ⟨("complete", none), "complete", "complete", defArgs s_complete, defBody s_complete, defScope s_complete, [], []⟩
def d_cancel : He.DefD := ⟨("cancel", none), "cancel", "cancel", defArgs s_cancel, defBody s_cancel, defScope s_cancel, [], []⟩
def d_advance : He.DefD := ⟨("advance", none), "advance", "advance", defArgs s_advance, defBody s_advance, defScope s_advance, [], []⟩
def d_run_one : He.DefD := ⟨("run_one", none), "run_one", "run_one", defArgs s_run_one, defBody s_run_one, defScope s_run_one, [], []⟩
def d_run : He.DefD := ⟨("run", none), "run", "run", defArgs s_run, defBody s_run, defScope s_run, [], []⟩
def d_with_count : He.DefD := ⟨("with_count", none), "with_count", "with_count", defArgs s_with_count, defBody s_with_count, defScope s_with_count, [], []⟩
def d_next_timer : He.DefD := ⟨("next_timer", none), "next_timer", "next_timer", defArgs s_next_timer, defBody s_next_timer, defScope s_next_timer, [], []⟩
def d_call_info : He.DefD := ⟨("call_info", none), "call_info", "call_info", defArgs s_call_info, defBody s_call_info, defScope s_call_info, [], []⟩
def d_attempt_info : He.DefD := ⟨("attempt_info", none), "attempt_info", "attempt_info", defArgs s_attempt_info, defBody s_attempt_info, defScope s_attempt_info, [], []⟩
def d_call_attempts : He.DefD := ⟨("call_attempts", none), "call_attempts", "call_attempts", defArgs s_call_attempts, defBody s_call_attempts, defScope s_call_attempts, [], []⟩
def d_backend_info : He.DefD := ⟨("backend_info", none), "backend_info", "backend_info", defArgs s_backend_info, defBody s_backend_info, defScope s_backend_info, [], []⟩
def d_running_attempts : He.DefD := ⟨("running_attempts", none), "running_attempts", "running_attempts", defArgs s_running_attempts, defBody s_running_attempts, defScope s_running_attempts, [], []⟩
def d_preview_choice : He.DefD := ⟨("preview_choice", none), "preview_choice", "preview_choice", defArgs s_preview_choice, defBody s_preview_choice, defScope s_preview_choice, [], []⟩
def d_ranking : He.DefD := ⟨("ranking", none), "ranking", "ranking", defArgs s_ranking, defBody s_ranking, defScope s_ranking, [], []⟩
def d_told_hash : He.DefD := ⟨("told_hash", none), "told_hash", "told_hash", defArgs s_told_hash, defBody s_told_hash, defScope s_told_hash, [], []⟩
def d_available_backends : He.DefD := ⟨("available_backends", none), "available_backends", "available_backends", defArgs s_available_backends, defBody s_available_backends, defScope s_available_backends, [], []⟩
def d_told_bound : He.DefD := ⟨("told_bound", none), "told_bound", "told_bound", defArgs s_told_bound, defBody s_told_bound, defScope s_told_bound, [], []⟩
def d_budget : He.DefD := ⟨("budget", none), "budget", "budget", defArgs s_budget, defBody s_budget, defScope s_budget, [], []⟩
def d_totals : He.DefD := ⟨("totals", none), "totals", "totals", defArgs s_totals, defBody s_totals, defScope s_totals, [], []⟩
def d_told_state : He.DefD := ⟨("told_state", none), "told_state", "told_state", defArgs s_told_state, defBody s_told_state, defScope s_told_state, [], []⟩
def d_new_client : He.DefD := ⟨("new_client", none), "new_client", "new_client", defArgs s_new_client, defBody s_new_client, defScope s_new_client, [], []⟩
def d_operated : He.DefD := ⟨("operated", none), "operated", "operated", defArgs s_operated, defBody s_operated, defScope s_operated, [], []⟩
def d_Request_init : He.DefD := ⟨("Request", some "__init__"), "__init__", "Request.__init__", defArgs s_Request_init, defBody s_Request_init, defScope s_Request_init, [], []⟩
def d_Request_does : He.DefD := ⟨("Request", some "does"), "does", "Request.does", defArgs s_Request_does, defBody s_Request_does, defScope s_Request_does, [], []⟩
def d_Request_answer : He.DefD := ⟨("Request", some "answer"), "answer", "Request.answer", defArgs s_Request_answer, defBody s_Request_answer, defScope s_Request_answer, [], []⟩
def d_answers : He.DefD := ⟨("answers", none), "answers", "answers", defArgs s_answers, defBody s_answers, defScope s_answers, [], []⟩
def fnsL : List He.DefD := [d_bytes_of_key, d_key_hash, d_Backend_init, d_Backend_is_ejected, d_Backend_is_available, d_Backend_eject, d_greatest, d_from_pointer, d_choice, d_shift_weights, d_ranked, d_is_within, d_is_status, d_are_parameters, d_Policy_init, d_Policy_most_tokens, d_Policy_does_allow, d_Policy_backoff_bound, d_told_or_nothing, d_Call_init, d_Call_is_open, d_Call_running, d_Call_has_used, d_Call_told_status, d_Call_timers, d_Attempt_init, d_Attempt_leave, d_Client_init, d_Client_active, d_Client_available, d_Client_running_now, d_Client_is_allowed, d_Client_general_candidates, d_Client_candidates, d_Client_choose, d_Client_start_attempt, d_Client_hedge_time, d_Client_end_call, d_Client_fail_backend, d_Client_is_to_eject, d_Client_end_attempt, d_Client_follow_failure, d_Client_is_retryable, d_Client_retry_or_end, d_Client_delay, d_Client_all_timers, d_Client_fire, d_Client_fire_until, d_Client_open_call, d_Refused_init, d_need, d_active_backend, d_add_backend, d_remove_backend, d_set_weight, d_start_call, d_complete, d_cancel, d_advance, d_run_one, d_run, d_with_count, d_next_timer, d_call_info, d_attempt_info, d_call_attempts, d_backend_info, d_running_attempts, d_preview_choice, d_ranking, d_told_hash, d_available_backends, d_told_bound, d_budget, d_totals, d_told_state, d_new_client, d_operated, d_Request_init, d_Request_does, d_Request_answer, d_answers]
def fa0 : List He.Fa := [.int "ROUND_ROBIN" (0), .int "WEIGHTED" (1), .int "LEAST_OUTSTANDING" (2), .int "HASH_START" (2166136261), .int "HASH_FACTOR" (16777619), .int "HASH_RANGE" (4294967296), .glo "bytes_of_key", .glo "key_hash", .glo "Backend", .glo "greatest", .glo "from_pointer", .glo "choice", .glo "shift_weights", .glo "ranked", .glo "LIMITS", .int "MOST_RETRYABLE" (16), .int "GREATEST_STATUS" (16), .int "REFUSED_STATUS" (100), .glo "is_within", .glo "is_status", .glo "are_parameters", .glo "Policy", .int "RUNNING" (0), .int "FINISHED" (1), .int "CANCELLED" (2), .glo "told_or_nothing", .glo "Call", .glo "Attempt", .int "OK" (0), .int "UNKNOWN" (2)]
def fa1 : List He.Fa := [.int "DEADLINE" (4), .int "UNAVAILABLE" (14), .int "NO_RETRY" (1), .int "KIND_DEADLINE" (0), .int "KIND_RETRY" (1), .int "SEED_FACTOR" (1103515245), .int "SEED_STEP" (12345), .int "SEED_RANGE" (2147483648), .int "TOKEN" (1000), .glo "Client", .int "NO_CLIENT" (-11), .int "NOT_THERE" (-2), .int "OUT_OF_LIMITS" (-22), .int "NOT_OPEN" (-16), .int "TOO_MANY" (-28), .int "NOTHING" (-33), .glo "Refused", .glo "need", .int "CANCELLED_STATUS" (1), .int "UNAVAILABLE_STATUS" (14), .int "MOST_BACKENDS" (8), .int "MOST_CALLS" (60), .int "MOST_ATTEMPTS" (200), .int "MOST_WEIGHT" (100), .int "MOST_TIMEOUT" (100000), .int "MOST_PUSHBACK" (100002), .int "MOST_DURATION" (1000000), .int "MOST_STATUSES" (40), .glo "active_backend", .glo "add_backend"]
def fa2 : List He.Fa := [.glo "remove_backend", .glo "set_weight", .glo "start_call", .glo "complete", .glo "cancel", .glo "advance", .glo "run_one", .glo "run", .int "MOST_HASHED" (255), .int "MOST_BOUNDS" (10), .glo "with_count", .glo "next_timer", .glo "call_info", .glo "attempt_info", .glo "call_attempts", .glo "backend_info", .glo "running_attempts", .glo "preview_choice", .glo "ranking", .glo "told_hash", .glo "available_backends", .glo "told_bound", .glo "budget", .glo "totals", .glo "told_state", .int "CREATE" (0), .int "RUN" (9), .int "GREATEST_SEED" (2147483647), .int "GREATEST_BALANCER" (3), .glo "WITH_NONE"]
def fa3 : List He.Fa := [.glo "WITH_ONE", .glo "WITH_TWO", .glo "WITH_THREE", .glo "new_client", .glo "operated", .glo "Request", .glo "answers", .free "range", .free "any", .free "sorted", .free "max", .free "sum", .free "len", .free "zip", .free "all", .free "list", .free "min", .free "enumerate", .free "int", .free "ValueError", .cls "Backend", .mkr "Backend", .noat "Backend" "number", .noat "Backend" "weight", .noat "Backend" "current", .noat "Backend" "outstanding", .noat "Backend" "failures", .noat "Backend" "ejections", .noat "Backend" "ejected_until", .noat "Backend" "is_active"]
def fa4 : List He.Fa := [.meth "Backend" "is_ejected", .meth "Backend" "is_available", .meth "Backend" "eject", .cls "Policy", .mkr "Policy", .noat "Policy" "max_attempts", .noat "Policy" "initial_backoff", .noat "Policy" "max_backoff", .noat "Policy" "multiplier", .noat "Policy" "hedge_delay", .noat "Policy" "threshold", .noat "Policy" "ejection_time", .noat "Policy" "ejection_percent", .noat "Policy" "max_tokens", .noat "Policy" "refund", .noat "Policy" "retryable", .meth "Policy" "most_tokens", .meth "Policy" "does_allow", .meth "Policy" "backoff_bound", .cls "Call", .mkr "Call", .noat "Call" "number", .noat "Call" "deadline", .noat "Call" "is_idempotent", .noat "Call" "key", .noat "Call" "counted", .noat "Call" "retries", .noat "Call" "has_transparent", .noat "Call" "retry_at", .noat "Call" "hedge_at"]
def fa5 : List He.Fa := [.noat "Call" "final", .noat "Call" "finished_at", .noat "Call" "attempts", .meth "Call" "is_open", .meth "Call" "running", .meth "Call" "has_used", .meth "Call" "told_status", .meth "Call" "timers", .cls "Attempt", .mkr "Attempt", .noat "Attempt" "number", .noat "Attempt" "call", .noat "Attempt" "backend", .noat "Attempt" "place", .noat "Attempt" "started_at", .noat "Attempt" "state", .noat "Attempt" "status", .meth "Attempt" "leave", .cls "Client", .mkr "Client", .noat "Client" "seed", .noat "Client" "balancer", .noat "Client" "policy", .noat "Client" "now", .noat "Client" "tokens", .noat "Client" "pointer", .noat "Client" "backends", .noat "Client" "calls", .noat "Client" "attempts", .noat "Client" "retry_count"]
def fa6 : List He.Fa := [.noat "Client" "hedge_count", .noat "Client" "transparent_count", .meth "Client" "active", .meth "Client" "available", .meth "Client" "running_now", .meth "Client" "is_allowed", .meth "Client" "general_candidates", .meth "Client" "candidates", .meth "Client" "choose", .meth "Client" "start_attempt", .meth "Client" "hedge_time", .meth "Client" "end_call", .meth "Client" "fail_backend", .meth "Client" "is_to_eject", .meth "Client" "end_attempt", .meth "Client" "follow_failure", .meth "Client" "is_retryable", .meth "Client" "retry_or_end", .meth "Client" "delay", .meth "Client" "all_timers", .meth "Client" "fire", .meth "Client" "fire_until", .meth "Client" "open_call", .cls "Request", .mkr "Request", .noat "Request" "client", .meth "Request" "does", .meth "Request" "answer", .exm "Refused" "Refused" true]
def faL : List He.Fa := fa0 ++ (fa1 ++ (fa2 ++ (fa3 ++ (fa4 ++ (fa5 ++ (fa6))))))
def nm0 : List PySem.Str := ["ROUND_ROBIN", "WEIGHTED", "LEAST_OUTSTANDING", "HASH_START", "HASH_FACTOR", "HASH_RANGE", "bytes_of_key", "key_hash", "Backend", "greatest", "from_pointer", "choice", "shift_weights", "ranked", "LIMITS", "MOST_RETRYABLE", "GREATEST_STATUS", "REFUSED_STATUS", "is_within", "is_status", "are_parameters", "Policy", "RUNNING", "FINISHED", "CANCELLED", "told_or_nothing", "Call", "Attempt", "OK", "UNKNOWN"]
def nm1 : List PySem.Str := ["DEADLINE", "UNAVAILABLE", "NO_RETRY", "KIND_DEADLINE", "KIND_RETRY", "SEED_FACTOR", "SEED_STEP", "SEED_RANGE", "TOKEN", "Client", "NO_CLIENT", "NOT_THERE", "OUT_OF_LIMITS", "NOT_OPEN", "TOO_MANY", "NOTHING", "Refused", "need", "CANCELLED_STATUS", "UNAVAILABLE_STATUS", "MOST_BACKENDS", "MOST_CALLS", "MOST_ATTEMPTS", "MOST_WEIGHT", "MOST_TIMEOUT", "MOST_PUSHBACK", "MOST_DURATION", "MOST_STATUSES", "active_backend", "add_backend"]
def nm2 : List PySem.Str := ["remove_backend", "set_weight", "start_call", "complete", "cancel", "advance", "run_one", "run", "MOST_HASHED", "MOST_BOUNDS", "with_count", "next_timer", "call_info", "attempt_info", "call_attempts", "backend_info", "running_attempts", "preview_choice", "ranking", "told_hash", "available_backends", "told_bound", "budget", "totals", "told_state", "CREATE", "RUN", "GREATEST_SEED", "GREATEST_BALANCER", "WITH_NONE"]
def nm3 : List PySem.Str := ["WITH_ONE", "WITH_TWO", "WITH_THREE", "new_client", "operated", "Request"]
def nmL : List PySem.Str := nm0 ++ (nm1 ++ (nm2 ++ (nm3)))
/-! ### facts of the top's tables and of the error's class -/
/-- a tuple of two ints -/
def pairB (K : PySem.W.Frag) (a : Addr) (lo hi : Int) : Bool := match K.lookup a with
  | some ⟨.type c, _, .seq its _, _⟩ => decide (c = "tuple") && (decide (its.size ≤ sizeLine) && He.relAll [.int lo, .int hi] its.toList)
  | _ => false
def pairsB (K : PySem.W.Frag) : List Value → List (Int × Int) → Bool
  | [], [] => true
  | .ref a :: vs, q :: qs => pairB K a q.1 q.2 && pairsB K vs qs
  | _, _ => false
def limL : List (Int × Int) := [(1, 5), (0, 10000), (0, 100000), (100, 1000), (0, 10000), (0, 10), (1, 100000), (0, 100), (0, 1000), (0, 1000)]
def limB (K : PySem.W.Frag) : Bool := match K.lookup (He.ga K "LIMITS") with
  | some ⟨.type c, _, .seq its _, _⟩ => decide (c = "tuple") && (decide (its.size ≤ sizeLine) && pairsB K its.toList limL)
  | _ => false
/-- the entries of a dict from ints to the module's defs -/
def entsB (K : PySem.W.Frag) : List DictEntry → List (Int × Str) → Bool
  | [], [] => true
  | e :: r, (k, f) :: s => (match e.key, e.val with
    | .int i _, .ref a => decide (i = k) && (decide (e.hash = hashInt k) && decide (a = He.ga K f))
    | _, _ => false) && entsB K r s
  | _, _ => false
def dicB (K : PySem.W.Frag) (x : Str) (l : List (Int × Str)) : Bool := match K.lookup (He.ga K x) with
  | some ⟨.type c, none, .dict es _, sl⟩ => decide (c = "dict") && (sl.isEmpty && (!(He.ga K x == sysModules) && entsB K es.toList l))
  | _ => false
def dl_WITH_NONE : List (Int × Str) := [(8, "next_timer"), (14, "running_attempts"), (18, "available_backends"), (20, "budget"), (21, "totals"), (22, "told_state")]
def dl_WITH_ONE : List (Int × Str) := [(1, "add_backend"), (2, "remove_backend"), (6, "cancel"), (7, "advance"), (10, "call_info"), (11, "attempt_info"), (12, "call_attempts"), (13, "backend_info"), (15, "preview_choice"), (16, "ranking"), (19, "told_bound")]
def dl_WITH_TWO : List (Int × Str) := [(3, "set_weight"), (17, "told_hash")]
def dl_WITH_THREE : List (Int × Str) := [(4, "start_call"), (5, "complete")]
/-- the error's class, over ValueError with an __init__ of its own -/
def oexB (K : PySem.W.Frag) (C : Addr) : Bool := match K.lookup C with
  | some ⟨.type t, _, .cls cd, sl⟩ => decide (t = "type") && (match cd.mro, sl.toList with
    | .ref D :: bm, [_, _, _, _, some (.builtin n), _] => decide (D = C) && (decide (n = "ValueError.__new__") && (!cd.hasDel && (cd.hasDict && PySem.HandSPX.refsVE bm)))
    | _, _ => false)
  | _ => false
def vinB (K : PySem.W.Frag) : Bool := match PySem.W.findCls K (.type "ValueError") (.type "type") "__init__" with
  | some (.val (.builtin n)) => decide (n = "ValueError.__init__")
  | _ => false
def refB (K : PySem.W.Frag) : Bool :=
  oexB K (He.ga K "Refused") && (He.eqO (PySem.W.findIn K (.ref (He.ga K "Refused")) "__setattr__") (some (some (.builtin "object.__setattr__"))) &&
  (decide (PySem.W.subIn K (.ref (He.ga K "Refused")) (.type "BaseException") = some true) && (decide (PySem.W.typeIn K (.ref (He.ga K "Refused")) = some (.type "type")) &&
  (PySem.W.keepIn K (.ref (He.ga K "Refused")) && (He.eqO (PySem.W.findIn K (.ref (He.ga K "Refused")) "__init__") (some (some (.ref (He.ma K (He.ga K "Refused") "__init__")))) &&
  (decide (PySem.W.typeIn K (.ref (He.ma K (He.ga K "Refused") "__init__")) = some (.type "function")) && (He.eqO (PySem.W.findIn K (.ref (He.ga K "Refused")) "code") (some none) &&
  (xfB K (He.ga K "Refused") && vinB K))))))))
def extraB (K : PySem.W.Frag) : Bool := limB K && (dicB K "WITH_NONE" dl_WITH_NONE && (dicB K "WITH_ONE" dl_WITH_ONE && (dicB K "WITH_TWO" dl_WITH_TWO && (dicB K "WITH_THREE" dl_WITH_THREE && refB K))))
/-! ### the Hook -/
def obsH (K : PySem.W.Frag) : He.AlD := (faL.all (fun f => f.ok K) && (fnsL.all (fun d => d.ok K) && extraB K), fnsL.map fun d => He.fnW K d.at_)
def SaysH (K : PySem.W.Frag) : Prop := obsH K = He.valD fnsL
/-- the addresses looked at: the module's names, the classes' tables, methods, code objects, the limits -/
def nxt (g : Addr → Option Obj) (as : List Addr) : List Addr := as.flatMap fun a => match g a with
  | some o => (match o.data with
    | .seq its _ => its.toList.flatMap He.refV
    | .func fd => He.refV fd.code
    | .cls cd => [cd.ns]
    | .dict es _ => es.toList.flatMap fun e => He.refV e.val
    | _ => [])
  | none => []
/-- a dict from ints to defs names nothing new -/
def noTab (g : Addr → Option Obj) (a : Addr) : Bool := match g a with
  | some o => (match o.data with
    | .dict es _ => es.toList.all fun e => (match e.key with
      | .int _ _ => false
      | _ => true)
    | _ => true)
  | none => true
def asH (g : Addr → Option Obj) : List Addr := let a1 := nxt g [mainGlobals]; let a2 := nxt g (a1.filter (noTab g)); let a3 := nxt g a2; let a4 := nxt g a3; mainGlobals :: (a1 ++ (a2 ++ (a3 ++ a4)))
def hk : PySem.W.Hook where
  α := He.AlD
  obs := fun s => obsH (He.frG s.heap.get? (asH s.heap.get?))
  val := fun _ => He.valD fnsL
  says := fun _ h => ∃ K : PySem.W.Frag, K.In h ∧ SaysH K
  of := fun _ _ e => ⟨_, He.frG_in, e⟩
  keeps := fun _ _ _ ⟨K, hK, c⟩ k => ⟨K, PySem.W.Frag.In.keeps hK k, c⟩
/-- what every def's proof leans on -/
structure Tx (K : PySem.W.Frag) (mg : Str → Option Value) : Prop where
  says : SaysH K
  heap : ∃ h : Heap, K.In h ∧ h.Ns mainGlobals mg
section
variable {K : PySem.W.Frag} {mg : Str → Option Value}
theorem Tx.parts (T : Tx K mg) : faL.all (fun f => f.ok K) = true ∧ fnsL.all (fun d => d.ok K) = true ∧ extraB K = true := by
  have e : (faL.all (fun f => f.ok K) && (fnsL.all (fun d => d.ok K) && extraB K)) = true := congrArg (fun z : He.AlD => z.1) T.says
  exact ⟨(He.ba e).1, (He.ba (He.ba e).2).1, (He.ba (He.ba e).2).2⟩
theorem Tx.fact (T : Tx K mg) (i : Nat) {f : He.Fa} (h : faL[i]? = some f := by rfl) : f.ok K = true := List.all_eq_true.mp T.parts.1 f (List.mem_of_getElem? h)
theorem Tx.def_ (T : Tx K mg) (i : Nat) {d : He.DefD} (h : fnsL[i]? = some d := by rfl) : ∃ fd, FunD K d.name d.qual d.params d.body d.scope (d.dvs K) (d.kws K) (He.fAd K d.at_) fd := by
  have e : fnsL.map (fun d => He.fnW K d.at_) = fnsL.map He.DefD.val := congrArg (fun z : He.AlD => z.2) T.says
  have e2 : (fnsL.map fun d => He.fnW K d.at_)[i]? = (fnsL.map He.DefD.val)[i]? := by rw [e]
  rw [List.getElem?_map, List.getElem?_map, h] at e2
  exact He.DefD.funD (Option.some.inj e2) (List.all_eq_true.mp T.parts.2.1 d (List.mem_of_getElem? h))
theorem Tx.glo (T : Tx K mg) {x : Str} (c : (He.Fa.glo x).ok K = true) : mg x = some (.ref (He.ga K x)) := by
  obtain ⟨h, X, G⟩ := T.heap
  exact He.glo_ok X G c
theorem Tx.fre (T : Tx K mg) {x : Str} (c : (He.Fa.free x).ok K = true) : mg x = none := by
  obtain ⟨h, X, G⟩ := T.heap
  exact He.free_ok X G c
theorem Tx.int (T : Tx K mg) {x : Str} {i : Int} (c : (He.Fa.int x i).ok K = true) : ∃ t, mg x = some (.int i t) := by
  obtain ⟨h, X, G⟩ := T.heap
  exact He.int_ok X G c
theorem Tx.i_ROUND_ROBIN (T : Tx K mg) : ∃ t, mg "ROUND_ROBIN" = some (.int (0) t) := T.int (T.fact 0)
theorem Tx.i_WEIGHTED (T : Tx K mg) : ∃ t, mg "WEIGHTED" = some (.int (1) t) := T.int (T.fact 1)
theorem Tx.i_LEAST_OUTSTANDING (T : Tx K mg) : ∃ t, mg "LEAST_OUTSTANDING" = some (.int (2) t) := T.int (T.fact 2)
theorem Tx.i_HASH_START (T : Tx K mg) : ∃ t, mg "HASH_START" = some (.int (2166136261) t) := T.int (T.fact 3)
theorem Tx.i_HASH_FACTOR (T : Tx K mg) : ∃ t, mg "HASH_FACTOR" = some (.int (16777619) t) := T.int (T.fact 4)
theorem Tx.i_HASH_RANGE (T : Tx K mg) : ∃ t, mg "HASH_RANGE" = some (.int (4294967296) t) := T.int (T.fact 5)
theorem Tx.g_bytes_of_key (T : Tx K mg) : mg "bytes_of_key" = some (.ref (He.ga K "bytes_of_key")) := T.glo (T.fact 6)
theorem Tx.g_key_hash (T : Tx K mg) : mg "key_hash" = some (.ref (He.ga K "key_hash")) := T.glo (T.fact 7)
theorem Tx.g_Backend (T : Tx K mg) : mg "Backend" = some (.ref (He.ga K "Backend")) := T.glo (T.fact 8)
theorem Tx.g_greatest (T : Tx K mg) : mg "greatest" = some (.ref (He.ga K "greatest")) := T.glo (T.fact 9)
theorem Tx.g_from_pointer (T : Tx K mg) : mg "from_pointer" = some (.ref (He.ga K "from_pointer")) := T.glo (T.fact 10)
theorem Tx.g_choice (T : Tx K mg) : mg "choice" = some (.ref (He.ga K "choice")) := T.glo (T.fact 11)
theorem Tx.g_shift_weights (T : Tx K mg) : mg "shift_weights" = some (.ref (He.ga K "shift_weights")) := T.glo (T.fact 12)
theorem Tx.g_ranked (T : Tx K mg) : mg "ranked" = some (.ref (He.ga K "ranked")) := T.glo (T.fact 13)
theorem Tx.g_LIMITS (T : Tx K mg) : mg "LIMITS" = some (.ref (He.ga K "LIMITS")) := T.glo (T.fact 14)
theorem Tx.i_MOST_RETRYABLE (T : Tx K mg) : ∃ t, mg "MOST_RETRYABLE" = some (.int (16) t) := T.int (T.fact 15)
theorem Tx.i_GREATEST_STATUS (T : Tx K mg) : ∃ t, mg "GREATEST_STATUS" = some (.int (16) t) := T.int (T.fact 16)
theorem Tx.i_REFUSED_STATUS (T : Tx K mg) : ∃ t, mg "REFUSED_STATUS" = some (.int (100) t) := T.int (T.fact 17)
theorem Tx.g_is_within (T : Tx K mg) : mg "is_within" = some (.ref (He.ga K "is_within")) := T.glo (T.fact 18)
theorem Tx.g_is_status (T : Tx K mg) : mg "is_status" = some (.ref (He.ga K "is_status")) := T.glo (T.fact 19)
theorem Tx.g_are_parameters (T : Tx K mg) : mg "are_parameters" = some (.ref (He.ga K "are_parameters")) := T.glo (T.fact 20)
theorem Tx.g_Policy (T : Tx K mg) : mg "Policy" = some (.ref (He.ga K "Policy")) := T.glo (T.fact 21)
theorem Tx.i_RUNNING (T : Tx K mg) : ∃ t, mg "RUNNING" = some (.int (0) t) := T.int (T.fact 22)
theorem Tx.i_FINISHED (T : Tx K mg) : ∃ t, mg "FINISHED" = some (.int (1) t) := T.int (T.fact 23)
theorem Tx.i_CANCELLED (T : Tx K mg) : ∃ t, mg "CANCELLED" = some (.int (2) t) := T.int (T.fact 24)
theorem Tx.g_told_or_nothing (T : Tx K mg) : mg "told_or_nothing" = some (.ref (He.ga K "told_or_nothing")) := T.glo (T.fact 25)
theorem Tx.g_Call (T : Tx K mg) : mg "Call" = some (.ref (He.ga K "Call")) := T.glo (T.fact 26)
theorem Tx.g_Attempt (T : Tx K mg) : mg "Attempt" = some (.ref (He.ga K "Attempt")) := T.glo (T.fact 27)
theorem Tx.i_OK (T : Tx K mg) : ∃ t, mg "OK" = some (.int (0) t) := T.int (T.fact 28)
theorem Tx.i_UNKNOWN (T : Tx K mg) : ∃ t, mg "UNKNOWN" = some (.int (2) t) := T.int (T.fact 29)
theorem Tx.i_DEADLINE (T : Tx K mg) : ∃ t, mg "DEADLINE" = some (.int (4) t) := T.int (T.fact 30)
theorem Tx.i_UNAVAILABLE (T : Tx K mg) : ∃ t, mg "UNAVAILABLE" = some (.int (14) t) := T.int (T.fact 31)
theorem Tx.i_NO_RETRY (T : Tx K mg) : ∃ t, mg "NO_RETRY" = some (.int (1) t) := T.int (T.fact 32)
theorem Tx.i_KIND_DEADLINE (T : Tx K mg) : ∃ t, mg "KIND_DEADLINE" = some (.int (0) t) := T.int (T.fact 33)
theorem Tx.i_KIND_RETRY (T : Tx K mg) : ∃ t, mg "KIND_RETRY" = some (.int (1) t) := T.int (T.fact 34)
theorem Tx.i_SEED_FACTOR (T : Tx K mg) : ∃ t, mg "SEED_FACTOR" = some (.int (1103515245) t) := T.int (T.fact 35)
theorem Tx.i_SEED_STEP (T : Tx K mg) : ∃ t, mg "SEED_STEP" = some (.int (12345) t) := T.int (T.fact 36)
theorem Tx.i_SEED_RANGE (T : Tx K mg) : ∃ t, mg "SEED_RANGE" = some (.int (2147483648) t) := T.int (T.fact 37)
theorem Tx.i_TOKEN (T : Tx K mg) : ∃ t, mg "TOKEN" = some (.int (1000) t) := T.int (T.fact 38)
theorem Tx.g_Client (T : Tx K mg) : mg "Client" = some (.ref (He.ga K "Client")) := T.glo (T.fact 39)
theorem Tx.i_NO_CLIENT (T : Tx K mg) : ∃ t, mg "NO_CLIENT" = some (.int (-11) t) := T.int (T.fact 40)
theorem Tx.i_NOT_THERE (T : Tx K mg) : ∃ t, mg "NOT_THERE" = some (.int (-2) t) := T.int (T.fact 41)
theorem Tx.i_OUT_OF_LIMITS (T : Tx K mg) : ∃ t, mg "OUT_OF_LIMITS" = some (.int (-22) t) := T.int (T.fact 42)
theorem Tx.i_NOT_OPEN (T : Tx K mg) : ∃ t, mg "NOT_OPEN" = some (.int (-16) t) := T.int (T.fact 43)
theorem Tx.i_TOO_MANY (T : Tx K mg) : ∃ t, mg "TOO_MANY" = some (.int (-28) t) := T.int (T.fact 44)
theorem Tx.i_NOTHING (T : Tx K mg) : ∃ t, mg "NOTHING" = some (.int (-33) t) := T.int (T.fact 45)
theorem Tx.g_Refused (T : Tx K mg) : mg "Refused" = some (.ref (He.ga K "Refused")) := T.glo (T.fact 46)
theorem Tx.g_need (T : Tx K mg) : mg "need" = some (.ref (He.ga K "need")) := T.glo (T.fact 47)
theorem Tx.i_CANCELLED_STATUS (T : Tx K mg) : ∃ t, mg "CANCELLED_STATUS" = some (.int (1) t) := T.int (T.fact 48)
theorem Tx.i_UNAVAILABLE_STATUS (T : Tx K mg) : ∃ t, mg "UNAVAILABLE_STATUS" = some (.int (14) t) := T.int (T.fact 49)
theorem Tx.i_MOST_BACKENDS (T : Tx K mg) : ∃ t, mg "MOST_BACKENDS" = some (.int (8) t) := T.int (T.fact 50)
theorem Tx.i_MOST_CALLS (T : Tx K mg) : ∃ t, mg "MOST_CALLS" = some (.int (60) t) := T.int (T.fact 51)
theorem Tx.i_MOST_ATTEMPTS (T : Tx K mg) : ∃ t, mg "MOST_ATTEMPTS" = some (.int (200) t) := T.int (T.fact 52)
theorem Tx.i_MOST_WEIGHT (T : Tx K mg) : ∃ t, mg "MOST_WEIGHT" = some (.int (100) t) := T.int (T.fact 53)
theorem Tx.i_MOST_TIMEOUT (T : Tx K mg) : ∃ t, mg "MOST_TIMEOUT" = some (.int (100000) t) := T.int (T.fact 54)
theorem Tx.i_MOST_PUSHBACK (T : Tx K mg) : ∃ t, mg "MOST_PUSHBACK" = some (.int (100002) t) := T.int (T.fact 55)
theorem Tx.i_MOST_DURATION (T : Tx K mg) : ∃ t, mg "MOST_DURATION" = some (.int (1000000) t) := T.int (T.fact 56)
theorem Tx.i_MOST_STATUSES (T : Tx K mg) : ∃ t, mg "MOST_STATUSES" = some (.int (40) t) := T.int (T.fact 57)
theorem Tx.g_active_backend (T : Tx K mg) : mg "active_backend" = some (.ref (He.ga K "active_backend")) := T.glo (T.fact 58)
theorem Tx.g_add_backend (T : Tx K mg) : mg "add_backend" = some (.ref (He.ga K "add_backend")) := T.glo (T.fact 59)
theorem Tx.g_remove_backend (T : Tx K mg) : mg "remove_backend" = some (.ref (He.ga K "remove_backend")) := T.glo (T.fact 60)
theorem Tx.g_set_weight (T : Tx K mg) : mg "set_weight" = some (.ref (He.ga K "set_weight")) := T.glo (T.fact 61)
theorem Tx.g_start_call (T : Tx K mg) : mg "start_call" = some (.ref (He.ga K "start_call")) := T.glo (T.fact 62)
theorem Tx.g_complete (T : Tx K mg) : mg "complete" = some (.ref (He.ga K "complete")) := T.glo (T.fact 63)
theorem Tx.g_cancel (T : Tx K mg) : mg "cancel" = some (.ref (He.ga K "cancel")) := T.glo (T.fact 64)
theorem Tx.g_advance (T : Tx K mg) : mg "advance" = some (.ref (He.ga K "advance")) := T.glo (T.fact 65)
theorem Tx.g_run_one (T : Tx K mg) : mg "run_one" = some (.ref (He.ga K "run_one")) := T.glo (T.fact 66)
theorem Tx.g_run (T : Tx K mg) : mg "run" = some (.ref (He.ga K "run")) := T.glo (T.fact 67)
theorem Tx.i_MOST_HASHED (T : Tx K mg) : ∃ t, mg "MOST_HASHED" = some (.int (255) t) := T.int (T.fact 68)
theorem Tx.i_MOST_BOUNDS (T : Tx K mg) : ∃ t, mg "MOST_BOUNDS" = some (.int (10) t) := T.int (T.fact 69)
theorem Tx.g_with_count (T : Tx K mg) : mg "with_count" = some (.ref (He.ga K "with_count")) := T.glo (T.fact 70)
theorem Tx.g_next_timer (T : Tx K mg) : mg "next_timer" = some (.ref (He.ga K "next_timer")) := T.glo (T.fact 71)
theorem Tx.g_call_info (T : Tx K mg) : mg "call_info" = some (.ref (He.ga K "call_info")) := T.glo (T.fact 72)
theorem Tx.g_attempt_info (T : Tx K mg) : mg "attempt_info" = some (.ref (He.ga K "attempt_info")) := T.glo (T.fact 73)
theorem Tx.g_call_attempts (T : Tx K mg) : mg "call_attempts" = some (.ref (He.ga K "call_attempts")) := T.glo (T.fact 74)
theorem Tx.g_backend_info (T : Tx K mg) : mg "backend_info" = some (.ref (He.ga K "backend_info")) := T.glo (T.fact 75)
theorem Tx.g_running_attempts (T : Tx K mg) : mg "running_attempts" = some (.ref (He.ga K "running_attempts")) := T.glo (T.fact 76)
theorem Tx.g_preview_choice (T : Tx K mg) : mg "preview_choice" = some (.ref (He.ga K "preview_choice")) := T.glo (T.fact 77)
theorem Tx.g_ranking (T : Tx K mg) : mg "ranking" = some (.ref (He.ga K "ranking")) := T.glo (T.fact 78)
theorem Tx.g_told_hash (T : Tx K mg) : mg "told_hash" = some (.ref (He.ga K "told_hash")) := T.glo (T.fact 79)
theorem Tx.g_available_backends (T : Tx K mg) : mg "available_backends" = some (.ref (He.ga K "available_backends")) := T.glo (T.fact 80)
theorem Tx.g_told_bound (T : Tx K mg) : mg "told_bound" = some (.ref (He.ga K "told_bound")) := T.glo (T.fact 81)
theorem Tx.g_budget (T : Tx K mg) : mg "budget" = some (.ref (He.ga K "budget")) := T.glo (T.fact 82)
theorem Tx.g_totals (T : Tx K mg) : mg "totals" = some (.ref (He.ga K "totals")) := T.glo (T.fact 83)
theorem Tx.g_told_state (T : Tx K mg) : mg "told_state" = some (.ref (He.ga K "told_state")) := T.glo (T.fact 84)
theorem Tx.i_CREATE (T : Tx K mg) : ∃ t, mg "CREATE" = some (.int (0) t) := T.int (T.fact 85)
theorem Tx.i_RUN (T : Tx K mg) : ∃ t, mg "RUN" = some (.int (9) t) := T.int (T.fact 86)
theorem Tx.i_GREATEST_SEED (T : Tx K mg) : ∃ t, mg "GREATEST_SEED" = some (.int (2147483647) t) := T.int (T.fact 87)
theorem Tx.i_GREATEST_BALANCER (T : Tx K mg) : ∃ t, mg "GREATEST_BALANCER" = some (.int (3) t) := T.int (T.fact 88)
theorem Tx.g_WITH_NONE (T : Tx K mg) : mg "WITH_NONE" = some (.ref (He.ga K "WITH_NONE")) := T.glo (T.fact 89)
theorem Tx.g_WITH_ONE (T : Tx K mg) : mg "WITH_ONE" = some (.ref (He.ga K "WITH_ONE")) := T.glo (T.fact 90)
theorem Tx.g_WITH_TWO (T : Tx K mg) : mg "WITH_TWO" = some (.ref (He.ga K "WITH_TWO")) := T.glo (T.fact 91)
theorem Tx.g_WITH_THREE (T : Tx K mg) : mg "WITH_THREE" = some (.ref (He.ga K "WITH_THREE")) := T.glo (T.fact 92)
theorem Tx.g_new_client (T : Tx K mg) : mg "new_client" = some (.ref (He.ga K "new_client")) := T.glo (T.fact 93)
theorem Tx.g_operated (T : Tx K mg) : mg "operated" = some (.ref (He.ga K "operated")) := T.glo (T.fact 94)
theorem Tx.g_Request (T : Tx K mg) : mg "Request" = some (.ref (He.ga K "Request")) := T.glo (T.fact 95)
theorem Tx.g_answers (T : Tx K mg) : mg "answers" = some (.ref (He.ga K "answers")) := T.glo (T.fact 96)
theorem Tx.b_range (T : Tx K mg) : mg "range" = none := T.fre (T.fact 97)
theorem Tx.b_any (T : Tx K mg) : mg "any" = none := T.fre (T.fact 98)
theorem Tx.b_sorted (T : Tx K mg) : mg "sorted" = none := T.fre (T.fact 99)
theorem Tx.b_max (T : Tx K mg) : mg "max" = none := T.fre (T.fact 100)
theorem Tx.b_sum (T : Tx K mg) : mg "sum" = none := T.fre (T.fact 101)
theorem Tx.b_len (T : Tx K mg) : mg "len" = none := T.fre (T.fact 102)
theorem Tx.b_zip (T : Tx K mg) : mg "zip" = none := T.fre (T.fact 103)
theorem Tx.b_all (T : Tx K mg) : mg "all" = none := T.fre (T.fact 104)
theorem Tx.b_list (T : Tx K mg) : mg "list" = none := T.fre (T.fact 105)
theorem Tx.b_min (T : Tx K mg) : mg "min" = none := T.fre (T.fact 106)
theorem Tx.b_enumerate (T : Tx K mg) : mg "enumerate" = none := T.fre (T.fact 107)
theorem Tx.b_int (T : Tx K mg) : mg "int" = none := T.fre (T.fact 108)
theorem Tx.b_ValueError (T : Tx K mg) : mg "ValueError" = none := T.fre (T.fact 109)
theorem Tx.c_Backend (T : Tx K mg) : Cls K (He.ga K "Backend") := He.cls_ok (T.fact 110)
theorem Tx.mk_Backend (T : Tx K mg) : Mk K (He.ga K "Backend") (He.ma K (He.ga K "Backend") "__init__") := He.mkr_ok (T.fact 111)
theorem Tx.n_Backend_number (T : Tx K mg) : NoAttr K (He.ga K "Backend") "number" := He.noat_ok (T.fact 112)
theorem Tx.n_Backend_weight (T : Tx K mg) : NoAttr K (He.ga K "Backend") "weight" := He.noat_ok (T.fact 113)
theorem Tx.n_Backend_current (T : Tx K mg) : NoAttr K (He.ga K "Backend") "current" := He.noat_ok (T.fact 114)
theorem Tx.n_Backend_outstanding (T : Tx K mg) : NoAttr K (He.ga K "Backend") "outstanding" := He.noat_ok (T.fact 115)
theorem Tx.n_Backend_failures (T : Tx K mg) : NoAttr K (He.ga K "Backend") "failures" := He.noat_ok (T.fact 116)
theorem Tx.n_Backend_ejections (T : Tx K mg) : NoAttr K (He.ga K "Backend") "ejections" := He.noat_ok (T.fact 117)
theorem Tx.n_Backend_ejected_until (T : Tx K mg) : NoAttr K (He.ga K "Backend") "ejected_until" := He.noat_ok (T.fact 118)
theorem Tx.n_Backend_is_active (T : Tx K mg) : NoAttr K (He.ga K "Backend") "is_active" := He.noat_ok (T.fact 119)
theorem Tx.m_Backend_is_ejected (T : Tx K mg) : Meth K (He.ga K "Backend") "is_ejected" (He.ma K (He.ga K "Backend") "is_ejected") := He.meth_ok (T.fact 120)
theorem Tx.m_Backend_is_available (T : Tx K mg) : Meth K (He.ga K "Backend") "is_available" (He.ma K (He.ga K "Backend") "is_available") := He.meth_ok (T.fact 121)
theorem Tx.m_Backend_eject (T : Tx K mg) : Meth K (He.ga K "Backend") "eject" (He.ma K (He.ga K "Backend") "eject") := He.meth_ok (T.fact 122)
theorem Tx.c_Policy (T : Tx K mg) : Cls K (He.ga K "Policy") := He.cls_ok (T.fact 123)
theorem Tx.mk_Policy (T : Tx K mg) : Mk K (He.ga K "Policy") (He.ma K (He.ga K "Policy") "__init__") := He.mkr_ok (T.fact 124)
theorem Tx.n_Policy_max_attempts (T : Tx K mg) : NoAttr K (He.ga K "Policy") "max_attempts" := He.noat_ok (T.fact 125)
theorem Tx.n_Policy_initial_backoff (T : Tx K mg) : NoAttr K (He.ga K "Policy") "initial_backoff" := He.noat_ok (T.fact 126)
theorem Tx.n_Policy_max_backoff (T : Tx K mg) : NoAttr K (He.ga K "Policy") "max_backoff" := He.noat_ok (T.fact 127)
theorem Tx.n_Policy_multiplier (T : Tx K mg) : NoAttr K (He.ga K "Policy") "multiplier" := He.noat_ok (T.fact 128)
theorem Tx.n_Policy_hedge_delay (T : Tx K mg) : NoAttr K (He.ga K "Policy") "hedge_delay" := He.noat_ok (T.fact 129)
theorem Tx.n_Policy_threshold (T : Tx K mg) : NoAttr K (He.ga K "Policy") "threshold" := He.noat_ok (T.fact 130)
theorem Tx.n_Policy_ejection_time (T : Tx K mg) : NoAttr K (He.ga K "Policy") "ejection_time" := He.noat_ok (T.fact 131)
theorem Tx.n_Policy_ejection_percent (T : Tx K mg) : NoAttr K (He.ga K "Policy") "ejection_percent" := He.noat_ok (T.fact 132)
theorem Tx.n_Policy_max_tokens (T : Tx K mg) : NoAttr K (He.ga K "Policy") "max_tokens" := He.noat_ok (T.fact 133)
theorem Tx.n_Policy_refund (T : Tx K mg) : NoAttr K (He.ga K "Policy") "refund" := He.noat_ok (T.fact 134)
theorem Tx.n_Policy_retryable (T : Tx K mg) : NoAttr K (He.ga K "Policy") "retryable" := He.noat_ok (T.fact 135)
theorem Tx.m_Policy_most_tokens (T : Tx K mg) : Meth K (He.ga K "Policy") "most_tokens" (He.ma K (He.ga K "Policy") "most_tokens") := He.meth_ok (T.fact 136)
theorem Tx.m_Policy_does_allow (T : Tx K mg) : Meth K (He.ga K "Policy") "does_allow" (He.ma K (He.ga K "Policy") "does_allow") := He.meth_ok (T.fact 137)
theorem Tx.m_Policy_backoff_bound (T : Tx K mg) : Meth K (He.ga K "Policy") "backoff_bound" (He.ma K (He.ga K "Policy") "backoff_bound") := He.meth_ok (T.fact 138)
theorem Tx.c_Call (T : Tx K mg) : Cls K (He.ga K "Call") := He.cls_ok (T.fact 139)
theorem Tx.mk_Call (T : Tx K mg) : Mk K (He.ga K "Call") (He.ma K (He.ga K "Call") "__init__") := He.mkr_ok (T.fact 140)
theorem Tx.n_Call_number (T : Tx K mg) : NoAttr K (He.ga K "Call") "number" := He.noat_ok (T.fact 141)
theorem Tx.n_Call_deadline (T : Tx K mg) : NoAttr K (He.ga K "Call") "deadline" := He.noat_ok (T.fact 142)
theorem Tx.n_Call_is_idempotent (T : Tx K mg) : NoAttr K (He.ga K "Call") "is_idempotent" := He.noat_ok (T.fact 143)
theorem Tx.n_Call_key (T : Tx K mg) : NoAttr K (He.ga K "Call") "key" := He.noat_ok (T.fact 144)
theorem Tx.n_Call_counted (T : Tx K mg) : NoAttr K (He.ga K "Call") "counted" := He.noat_ok (T.fact 145)
theorem Tx.n_Call_retries (T : Tx K mg) : NoAttr K (He.ga K "Call") "retries" := He.noat_ok (T.fact 146)
theorem Tx.n_Call_has_transparent (T : Tx K mg) : NoAttr K (He.ga K "Call") "has_transparent" := He.noat_ok (T.fact 147)
theorem Tx.n_Call_retry_at (T : Tx K mg) : NoAttr K (He.ga K "Call") "retry_at" := He.noat_ok (T.fact 148)
theorem Tx.n_Call_hedge_at (T : Tx K mg) : NoAttr K (He.ga K "Call") "hedge_at" := He.noat_ok (T.fact 149)
theorem Tx.n_Call_final (T : Tx K mg) : NoAttr K (He.ga K "Call") "final" := He.noat_ok (T.fact 150)
theorem Tx.n_Call_finished_at (T : Tx K mg) : NoAttr K (He.ga K "Call") "finished_at" := He.noat_ok (T.fact 151)
theorem Tx.n_Call_attempts (T : Tx K mg) : NoAttr K (He.ga K "Call") "attempts" := He.noat_ok (T.fact 152)
theorem Tx.m_Call_is_open (T : Tx K mg) : Meth K (He.ga K "Call") "is_open" (He.ma K (He.ga K "Call") "is_open") := He.meth_ok (T.fact 153)
theorem Tx.m_Call_running (T : Tx K mg) : Meth K (He.ga K "Call") "running" (He.ma K (He.ga K "Call") "running") := He.meth_ok (T.fact 154)
theorem Tx.m_Call_has_used (T : Tx K mg) : Meth K (He.ga K "Call") "has_used" (He.ma K (He.ga K "Call") "has_used") := He.meth_ok (T.fact 155)
theorem Tx.m_Call_told_status (T : Tx K mg) : Meth K (He.ga K "Call") "told_status" (He.ma K (He.ga K "Call") "told_status") := He.meth_ok (T.fact 156)
theorem Tx.m_Call_timers (T : Tx K mg) : Meth K (He.ga K "Call") "timers" (He.ma K (He.ga K "Call") "timers") := He.meth_ok (T.fact 157)
theorem Tx.c_Attempt (T : Tx K mg) : Cls K (He.ga K "Attempt") := He.cls_ok (T.fact 158)
theorem Tx.mk_Attempt (T : Tx K mg) : Mk K (He.ga K "Attempt") (He.ma K (He.ga K "Attempt") "__init__") := He.mkr_ok (T.fact 159)
theorem Tx.n_Attempt_number (T : Tx K mg) : NoAttr K (He.ga K "Attempt") "number" := He.noat_ok (T.fact 160)
theorem Tx.n_Attempt_call (T : Tx K mg) : NoAttr K (He.ga K "Attempt") "call" := He.noat_ok (T.fact 161)
theorem Tx.n_Attempt_backend (T : Tx K mg) : NoAttr K (He.ga K "Attempt") "backend" := He.noat_ok (T.fact 162)
theorem Tx.n_Attempt_place (T : Tx K mg) : NoAttr K (He.ga K "Attempt") "place" := He.noat_ok (T.fact 163)
theorem Tx.n_Attempt_started_at (T : Tx K mg) : NoAttr K (He.ga K "Attempt") "started_at" := He.noat_ok (T.fact 164)
theorem Tx.n_Attempt_state (T : Tx K mg) : NoAttr K (He.ga K "Attempt") "state" := He.noat_ok (T.fact 165)
theorem Tx.n_Attempt_status (T : Tx K mg) : NoAttr K (He.ga K "Attempt") "status" := He.noat_ok (T.fact 166)
theorem Tx.m_Attempt_leave (T : Tx K mg) : Meth K (He.ga K "Attempt") "leave" (He.ma K (He.ga K "Attempt") "leave") := He.meth_ok (T.fact 167)
theorem Tx.c_Client (T : Tx K mg) : Cls K (He.ga K "Client") := He.cls_ok (T.fact 168)
theorem Tx.mk_Client (T : Tx K mg) : Mk K (He.ga K "Client") (He.ma K (He.ga K "Client") "__init__") := He.mkr_ok (T.fact 169)
theorem Tx.n_Client_seed (T : Tx K mg) : NoAttr K (He.ga K "Client") "seed" := He.noat_ok (T.fact 170)
theorem Tx.n_Client_balancer (T : Tx K mg) : NoAttr K (He.ga K "Client") "balancer" := He.noat_ok (T.fact 171)
theorem Tx.n_Client_policy (T : Tx K mg) : NoAttr K (He.ga K "Client") "policy" := He.noat_ok (T.fact 172)
theorem Tx.n_Client_now (T : Tx K mg) : NoAttr K (He.ga K "Client") "now" := He.noat_ok (T.fact 173)
theorem Tx.n_Client_tokens (T : Tx K mg) : NoAttr K (He.ga K "Client") "tokens" := He.noat_ok (T.fact 174)
theorem Tx.n_Client_pointer (T : Tx K mg) : NoAttr K (He.ga K "Client") "pointer" := He.noat_ok (T.fact 175)
theorem Tx.n_Client_backends (T : Tx K mg) : NoAttr K (He.ga K "Client") "backends" := He.noat_ok (T.fact 176)
theorem Tx.n_Client_calls (T : Tx K mg) : NoAttr K (He.ga K "Client") "calls" := He.noat_ok (T.fact 177)
theorem Tx.n_Client_attempts (T : Tx K mg) : NoAttr K (He.ga K "Client") "attempts" := He.noat_ok (T.fact 178)
theorem Tx.n_Client_retry_count (T : Tx K mg) : NoAttr K (He.ga K "Client") "retry_count" := He.noat_ok (T.fact 179)
theorem Tx.n_Client_hedge_count (T : Tx K mg) : NoAttr K (He.ga K "Client") "hedge_count" := He.noat_ok (T.fact 180)
theorem Tx.n_Client_transparent_count (T : Tx K mg) : NoAttr K (He.ga K "Client") "transparent_count" := He.noat_ok (T.fact 181)
theorem Tx.m_Client_active (T : Tx K mg) : Meth K (He.ga K "Client") "active" (He.ma K (He.ga K "Client") "active") := He.meth_ok (T.fact 182)
theorem Tx.m_Client_available (T : Tx K mg) : Meth K (He.ga K "Client") "available" (He.ma K (He.ga K "Client") "available") := He.meth_ok (T.fact 183)
theorem Tx.m_Client_running_now (T : Tx K mg) : Meth K (He.ga K "Client") "running_now" (He.ma K (He.ga K "Client") "running_now") := He.meth_ok (T.fact 184)
theorem Tx.m_Client_is_allowed (T : Tx K mg) : Meth K (He.ga K "Client") "is_allowed" (He.ma K (He.ga K "Client") "is_allowed") := He.meth_ok (T.fact 185)
theorem Tx.m_Client_general_candidates (T : Tx K mg) : Meth K (He.ga K "Client") "general_candidates" (He.ma K (He.ga K "Client") "general_candidates") := He.meth_ok (T.fact 186)
theorem Tx.m_Client_candidates (T : Tx K mg) : Meth K (He.ga K "Client") "candidates" (He.ma K (He.ga K "Client") "candidates") := He.meth_ok (T.fact 187)
theorem Tx.m_Client_choose (T : Tx K mg) : Meth K (He.ga K "Client") "choose" (He.ma K (He.ga K "Client") "choose") := He.meth_ok (T.fact 188)
theorem Tx.m_Client_start_attempt (T : Tx K mg) : Meth K (He.ga K "Client") "start_attempt" (He.ma K (He.ga K "Client") "start_attempt") := He.meth_ok (T.fact 189)
theorem Tx.m_Client_hedge_time (T : Tx K mg) : Meth K (He.ga K "Client") "hedge_time" (He.ma K (He.ga K "Client") "hedge_time") := He.meth_ok (T.fact 190)
theorem Tx.m_Client_end_call (T : Tx K mg) : Meth K (He.ga K "Client") "end_call" (He.ma K (He.ga K "Client") "end_call") := He.meth_ok (T.fact 191)
theorem Tx.m_Client_fail_backend (T : Tx K mg) : Meth K (He.ga K "Client") "fail_backend" (He.ma K (He.ga K "Client") "fail_backend") := He.meth_ok (T.fact 192)
theorem Tx.m_Client_is_to_eject (T : Tx K mg) : Meth K (He.ga K "Client") "is_to_eject" (He.ma K (He.ga K "Client") "is_to_eject") := He.meth_ok (T.fact 193)
theorem Tx.m_Client_end_attempt (T : Tx K mg) : Meth K (He.ga K "Client") "end_attempt" (He.ma K (He.ga K "Client") "end_attempt") := He.meth_ok (T.fact 194)
theorem Tx.m_Client_follow_failure (T : Tx K mg) : Meth K (He.ga K "Client") "follow_failure" (He.ma K (He.ga K "Client") "follow_failure") := He.meth_ok (T.fact 195)
theorem Tx.m_Client_is_retryable (T : Tx K mg) : Meth K (He.ga K "Client") "is_retryable" (He.ma K (He.ga K "Client") "is_retryable") := He.meth_ok (T.fact 196)
theorem Tx.m_Client_retry_or_end (T : Tx K mg) : Meth K (He.ga K "Client") "retry_or_end" (He.ma K (He.ga K "Client") "retry_or_end") := He.meth_ok (T.fact 197)
theorem Tx.m_Client_delay (T : Tx K mg) : Meth K (He.ga K "Client") "delay" (He.ma K (He.ga K "Client") "delay") := He.meth_ok (T.fact 198)
theorem Tx.m_Client_all_timers (T : Tx K mg) : Meth K (He.ga K "Client") "all_timers" (He.ma K (He.ga K "Client") "all_timers") := He.meth_ok (T.fact 199)
theorem Tx.m_Client_fire (T : Tx K mg) : Meth K (He.ga K "Client") "fire" (He.ma K (He.ga K "Client") "fire") := He.meth_ok (T.fact 200)
theorem Tx.m_Client_fire_until (T : Tx K mg) : Meth K (He.ga K "Client") "fire_until" (He.ma K (He.ga K "Client") "fire_until") := He.meth_ok (T.fact 201)
theorem Tx.m_Client_open_call (T : Tx K mg) : Meth K (He.ga K "Client") "open_call" (He.ma K (He.ga K "Client") "open_call") := He.meth_ok (T.fact 202)
theorem Tx.c_Request (T : Tx K mg) : Cls K (He.ga K "Request") := He.cls_ok (T.fact 203)
theorem Tx.mk_Request (T : Tx K mg) : Mk K (He.ga K "Request") (He.ma K (He.ga K "Request") "__init__") := He.mkr_ok (T.fact 204)
theorem Tx.n_Request_client (T : Tx K mg) : NoAttr K (He.ga K "Request") "client" := He.noat_ok (T.fact 205)
theorem Tx.m_Request_does (T : Tx K mg) : Meth K (He.ga K "Request") "does" (He.ma K (He.ga K "Request") "does") := He.meth_ok (T.fact 206)
theorem Tx.m_Request_answer (T : Tx K mg) : Meth K (He.ga K "Request") "answer" (He.ma K (He.ga K "Request") "answer") := He.meth_ok (T.fact 207)
theorem Tx.exm_Refused (T : Tx K mg) : PySem.W.exmOne K (.ref (He.ga K "Refused")) (.ref (He.ga K "Refused")) = some true := He.exm_ok (T.fact 208)
end
end Hc
/-! # The mathematics: plain Lean over the specification, no program in sight -/
namespace Hm
open Kp423
/-! ### lists -/
theorem take_more {α : Type} {l : List α} {i : Nat} {x : α} (h : l[i]? = some x) : l.take (i + 1) = l.take i ++ [x] := by
  rw [List.take_add_one, h]
  rfl
theorem map_range_more {α : Type} (f : Nat → α) (n : Nat) : (List.range (n + 1)).map f = (List.range n).map f ++ [f n] := by
  rw [List.range_succ, List.map_append]
  rfl
theorem take_range (n i : Nat) (h : i ≤ n) : (List.range n).take i = List.range i := by
  rw [List.take_range, Nat.min_eq_left h]
/-! ### hashes -/
theorem hash_is (key b : Nat) : fnv ((List.range 4).map (fun j => key / 256 ^ j % 256) ++ [b]) = hashOf key b := by
  simp [hashOf, List.range_succ, Nat.pow_succ]
theorem fold_more (l : List Nat) (b : Nat) (f : Nat → Nat → Nat) (i : Nat) : (l ++ [b]).foldl f i = f (l.foldl f i) b := by
  rw [List.foldl_append, List.foldl_cons, List.foldl_nil]
theorem fnv_more (l : List Nat) (b : Nat) : fnv (l ++ [b]) = (fnv l ^^^ b) * 16777619 % 4294967296 := fold_more l b (fun (h b : Nat) => (h ^^^ b) * 16777619 % 4294967296) 2166136261
/-! ### the greatest, the first of several -/
theorem greatest_go {value : Nat → Int} : ∀ (l : List Nat) (b j m : Nat), (b :: l)[j]? = some m → (∀ y ∈ b :: l, value y ≤ value m) → (∀ i, i < j → ∀ y, (b :: l)[i]? = some y → value y < value m) →
    l.foldl (fun (best : Option Nat) (i : Nat) => match best with
      | none => some i
      | some b => if value b < value i then some i else best) (some b) = some m
  | [], b, 0, m, h, _, _ => by simpa using h
  | [], b, j + 1, m, h, _, _ => by simp at h
  | x :: r, b, j, m, h, hm, hf => by
    rw [List.foldl_cons]
    by_cases c : value b < value x
    · simp only [c, if_true]
      cases j with
      | zero =>
        have e : b = m := by simpa using h
        have := hm x (by simp)
        rw [← e] at this
        exact absurd c (Int.not_lt.mpr this)
      | succ j => exact greatest_go r x j m (by simpa using h) (fun y hy => hm y (List.mem_cons_of_mem _ hy)) (fun i hi y hy => hf (i + 1) (Nat.succ_lt_succ hi) y (by simpa using hy))
    · simp only [c, if_false]
      cases j with
      | zero => exact greatest_go r b 0 m (by simpa using h) (fun y hy => hm y (by
          rcases List.mem_cons.mp hy with q | q
          · rw [q]; exact List.mem_cons_self
          · exact List.mem_cons_of_mem _ (List.mem_cons_of_mem _ q))) (fun i hi => absurd hi (Nat.not_lt_zero i))
      | succ j =>
        cases j with
        | zero =>
          have e : x = m := by simpa using h
          have := hf 0 (by decide) b rfl
          rw [← e] at this
          exact absurd this c
        | succ j =>
          refine greatest_go r b (j + 1) m (by simpa using h) (fun y hy => hm y (by
            rcases List.mem_cons.mp hy with q | q
            · rw [q]; exact List.mem_cons_self
            · exact List.mem_cons_of_mem _ (List.mem_cons_of_mem _ q))) (fun i hi y hy => ?_)
          cases i with
          | zero => exact hf 0 (by omega) y (by simpa using hy)
          | succ i => exact hf (i + 2) (by omega) y (by simpa using hy)
theorem greatest_is {value : Nat → Int} {l : List Nat} {j m : Nat} (h : l[j]? = some m) (hm : ∀ y ∈ l, value y ≤ value m) (hf : ∀ i, i < j → ∀ y, l[i]? = some y → value y ≠ value m) : firstGreatest l value = some m := by
  cases l with
  | nil => simp at h
  | cons b r =>
    refine greatest_go r b j m h hm fun i hi y hy => ?_
    have h1 := hm y (List.mem_of_getElem? hy)
    have h2 := hf i hi y hy
    omega
/-! ### one of the candidates -/
/-- what `choose` picks out of the candidates l -/
def pick (bal : Nat) (l : List Nat) (ptr key : Nat) (bk : Nat → Backend) : Option Nat := match bal with
  | 0 => (match l.find? fun i => decide (ptr ≤ i) with
    | some i => some i
    | none => l.head?)
  | 1 => firstGreatest l fun i => (bk i).current + (bk i).weight
  | 2 => firstGreatest l fun i => -((bk i).outstanding : Int)
  | _ => firstGreatest l fun i => (hashOf key i : Int)
theorem find_pick {l : List Nat} {ptr : Nat} : (match l.find? fun i => decide (ptr ≤ i) with | some i => some i | none => l.head?) = ((l.filter fun i => decide (ptr ≤ i)) ++ l).head? := by
  rw [List.head?_append, List.head?_filter]
  cases l.find? fun i => decide (ptr ≤ i) <;> rfl
theorem greatest_some {value : Nat → Int} : ∀ {l : List Nat}, l ≠ [] → ∃ j m : Nat, l[j]? = some m ∧ (∀ y ∈ l, value y ≤ value m) ∧ (∀ i, i < j → ∀ y, l[i]? = some y → value y ≠ value m)
  | [], h => absurd rfl h
  | [b], _ => ⟨0, b, rfl, by simp, fun i hi => absurd hi (Nat.not_lt_zero i)⟩
  | b :: x :: r, _ => by
    obtain ⟨j, m, h1, h2, h3⟩ := greatest_some (value := value) (l := x :: r) (by simp)
    by_cases c : value m ≤ value b
    · refine ⟨0, b, rfl, fun y hy => ?_, fun i hi => absurd hi (Nat.not_lt_zero i)⟩
      rcases List.mem_cons.mp hy with q | q
      · rw [q]; exact Int.le_refl _
      · exact Int.le_trans (h2 y q) c
    · refine ⟨j + 1, m, by simpa using h1, fun y hy => ?_, fun i hi y hy => ?_⟩
      · rcases List.mem_cons.mp hy with q | q
        · rw [q]; omega
        · exact h2 y q
      · cases i with
        | zero =>
          have e : b = y := by simpa using hy
          rw [← e]; omega
        | succ i => exact h3 i (by omega) y (by simpa using hy)
theorem pick_some {bal : Nat} {l : List Nat} {ptr key : Nat} {bk : Nat → Backend} (h : l ≠ []) : ∃ i, pick bal l ptr key bk = some i ∧ i ∈ l := by
  have gr : ∀ value : Nat → Int, ∃ i, firstGreatest l value = some i ∧ i ∈ l := fun value => by
    obtain ⟨j, m, h1, h2, h3⟩ := greatest_some (value := value) h
    exact ⟨m, greatest_is h1 h2 h3, List.mem_of_getElem? h1⟩
  unfold pick
  split
  · rw [find_pick]
    cases e : (l.filter fun i => decide (ptr ≤ i)) ++ l with
    | nil => exact absurd (List.append_eq_nil_iff.mp e).2 h
    | cons a r =>
      refine ⟨a, rfl, ?_⟩
      have : a ∈ (l.filter fun i => decide (ptr ≤ i)) ++ l := by rw [e]; exact List.mem_cons_self
      rcases List.mem_append.mp this with q | q
      · exact (List.mem_filter.mp q).1
      · exact q
  · exact gr _
  · exact gr _
  · exact gr _
/-! ### the order of hashes -/
/-- by decreasing hash, the smaller number first -/
def Ranked (key : Nat) : List Nat → Prop := List.Pairwise fun a b => hashOf key b < hashOf key a ∨ (hashOf key a = hashOf key b ∧ a < b)
theorem insert_perm (key i : Nat) : ∀ l : List Nat, (insertByHash key i l).Perm (i :: l)
  | [] => List.Perm.refl _
  | x :: r => by
    unfold insertByHash
    split
    · exact List.Perm.refl _
    · exact ((insert_perm key i r).cons x).trans (List.Perm.swap _ _ _)
theorem insert_ranked {key i : Nat} : ∀ {l : List Nat}, Ranked key l → (∀ x ∈ l, x < i) → Ranked key (insertByHash key i l)
  | [], _, _ => List.pairwise_singleton _ _
  | x :: r, h, hl => by
    obtain ⟨h1, h2⟩ := List.pairwise_cons.mp h
    unfold insertByHash
    split
    · rename_i c
      refine List.pairwise_cons.mpr ⟨fun y hy => ?_, h⟩
      rcases List.mem_cons.mp hy with q | q
      · rw [q]; exact Or.inl c
      · rcases h1 y q with z | z
        · exact Or.inl (by omega)
        · exact Or.inl (by omega)
    · rename_i c
      refine List.pairwise_cons.mpr ⟨fun y hy => ?_, insert_ranked h2 fun z hz => hl z (List.mem_cons_of_mem _ hz)⟩
      rcases List.mem_cons.mp ((insert_perm key i r).mem_iff.mp hy) with q | q
      · rw [q]
        have := hl x List.mem_cons_self
        by_cases e : hashOf key i = hashOf key x
        · exact Or.inr ⟨e.symm, this⟩
        · exact Or.inl (by omega)
      · exact h1 y q
theorem ranking_go {key : Nat} : ∀ (l acc : List Nat), Ranked key acc → (∀ x ∈ acc, ∀ y ∈ l, x < y) → l.Pairwise (· < ·) → Ranked key (l.foldl (fun l i => insertByHash key i l) acc) ∧ (l.foldl (fun l i => insertByHash key i l) acc).Perm (acc ++ l)
  | [], acc, h, _, _ => ⟨h, by simp⟩
  | i :: r, acc, h, hx, hp => by
    obtain ⟨p1, p2⟩ := List.pairwise_cons.mp hp
    have hi : ∀ x ∈ acc, x < i := fun x q => hx x q i List.mem_cons_self
    obtain ⟨h1, h2⟩ := ranking_go r (insertByHash key i acc) (insert_ranked h hi) (fun x q y hy => by
      rcases List.mem_cons.mp ((insert_perm key i acc).mem_iff.mp q) with e | e
      · rw [e]; exact p1 y hy
      · exact hx x e y (List.mem_cons_of_mem _ hy)) p2
    refine ⟨h1, h2.trans ?_⟩
    exact ((insert_perm key i acc).append_right r).trans (by
      show (i :: (acc ++ r)).Perm (acc ++ i :: r)
      exact (List.perm_middle).symm)
theorem ranked_unique {key : Nat} : ∀ {l m : List Nat}, Ranked key l → Ranked key m → l.Perm m → l = m
  | [], m, _, _, p => (List.Perm.eq_nil p.symm).symm
  | x :: l, [], _, _, p => absurd p.length_eq (by simp)
  | x :: l, y :: m, hl, hm, p => by
    obtain ⟨l1, l2⟩ := List.pairwise_cons.mp hl
    obtain ⟨m1, m2⟩ := List.pairwise_cons.mp hm
    have hxy : x = y := by
      rcases List.mem_cons.mp (p.mem_iff.mp (List.mem_cons_self (a := x) (l := l))) with e | hx
      · exact e
      · rcases List.mem_cons.mp (p.mem_iff.mpr (List.mem_cons_self (a := y) (l := m))) with e | hy
        · exact e.symm
        · have a := l1 y hy
          have b := m1 x hx
          omega
    subst hxy
    rw [ranked_unique l2 m2 p.cons_inv]
theorem active_sorted (c : Client) : (activeBackends c).Pairwise (· < ·) := List.Pairwise.filter _ List.pairwise_lt_range
theorem ranking_is {c : Client} {key : Nat} {l : List Nat} (h : Ranked key l) (p : l.Perm (activeBackends c)) : rankingOf c key = l := by
  obtain ⟨h1, h2⟩ := ranking_go (key := key) (activeBackends c) [] List.Pairwise.nil (fun x q => by simp at q) (active_sorted c)
  exact ranked_unique h1 h (h2.trans (by simpa using p.symm))
end Hm
namespace Hm
open Kp423
/-! ### reading the state -/
theorem range_getD {α : Type} (d : α) : ∀ l : List α, (List.range l.length).map (fun i => l.getD i d) = l := by
  intro l
  refine List.ext_getElem (by simp) fun i h1 h2 => ?_
  simp at h1
  simp [List.getD_eq_getElem?_getD, h1]
theorem at_get {c : Client} {j : Nat} (h : j < c.attempts.length) : c.attempts[j] = attemptAt c j := by
  unfold attemptAt
  simp [List.getD_eq_getElem?_getD, h]
theorem ca_get {c : Client} {j : Nat} (h : j < c.calls.length) : c.calls[j] = callAt c j := by
  unfold callAt
  simp [List.getD_eq_getElem?_getD, h]
theorem ba_get {c : Client} {j : Nat} (h : j < c.backends.length) : c.backends[j] = backendAt c j := by
  unfold backendAt
  simp [List.getD_eq_getElem?_getD, h]
def attsOf (c : Client) (i : Nat) : List Nat := (List.range c.attempts.length).filter fun j => (attemptAt c j).call == i
theorem tried_is (c : Client) (i : Nat) : triedBackends c i = (attsOf c i).map fun j => (attemptAt c j).backend := by
  unfold triedBackends attsOf
  have e : c.attempts = (List.range c.attempts.length).map fun j => attemptAt c j := (range_getD _ _).symm
  conv => lhs; rw [e]
  rw [List.filter_map, List.map_map]
  rfl
theorem atts_lt {c : Client} {i j : Nat} (h : j ∈ attsOf c i) : j < c.attempts.length := List.mem_range.mp (List.mem_filter.mp h).1
theorem atts_call {c : Client} {i j : Nat} (h : j ∈ attsOf c i) : (attemptAt c j).call = i := by simpa using (List.mem_filter.mp h).2
theorem atts_len (c : Client) (i : Nat) : (attsOf c i).length ≤ c.attempts.length := by
  have := List.length_filter_le (fun j => (attemptAt c j).call == i) (List.range c.attempts.length)
  rw [List.length_range] at this
  exact this
theorem tried_len (c : Client) (i : Nat) : (triedBackends c i).length = (attsOf c i).length := by rw [tried_is, List.length_map]
theorem used_is (c : Client) (i n : Nat) : ((attsOf c i).any fun j => decide ((attemptAt c j).backend = n)) = (triedBackends c i).contains n := by
  rw [tried_is, Bool.eq_iff_iff, List.any_eq_true, List.contains_iff_mem, List.mem_map]
  constructor
  · rintro ⟨j, h1, h2⟩
    exact ⟨j, h1, of_decide_eq_true h2⟩
  · rintro ⟨j, h1, h2⟩
    exact ⟨j, h1, decide_eq_true h2⟩
theorem running_is (c : Client) (i : Nat) : ((attsOf c i).filter fun j => isRunning (attemptAt c j)) = runningOf c i := by
  unfold runningOf runningAttempts attsOf
  rw [List.filter_filter, List.filter_filter]
  exact List.filter_congr fun j _ => Bool.and_comm _ _
/-! ### choosing -/
def genB (c : Client) : List Nat := if (availableBackends c).isEmpty then activeBackends c else availableBackends c
def candL (c : Client) (tried : List Nat) : List Nat := if ((genB c).filter fun i => !tried.contains i).isEmpty then genB c else (genB c).filter fun i => !tried.contains i
theorem cand_is (c : Client) (tried : List Nat) : candidates c tried = candL c tried := rfl
theorem avail_is (c : Client) : ((List.range c.backends.length).filter fun i => (backendAt c i).active && !isEjected c i) = availableBackends c := by
  unfold availableBackends activeBackends
  rw [List.filter_filter]
  exact List.filter_congr fun j _ => Bool.and_comm _ _
theorem active_lt {c : Client} {i : Nat} (h : i ∈ activeBackends c) : i < c.backends.length := List.mem_range.mp (List.mem_filter.mp h).1
theorem gen_sub {c : Client} {i : Nat} (h : i ∈ genB c) : i ∈ activeBackends c := by
  unfold genB at h
  split at h
  · exact h
  · exact (List.mem_filter.mp h).1
theorem cand_sub {c : Client} {t : List Nat} {i : Nat} (h : i ∈ candidates c t) : i ∈ activeBackends c := by
  rw [cand_is] at h
  unfold candL at h
  split at h
  · exact gen_sub h
  · exact gen_sub (List.mem_filter.mp h).1
theorem active_nodup (c : Client) : (activeBackends c).Nodup := List.Pairwise.imp (fun h => Nat.ne_of_lt h) (active_sorted c)
theorem active_len (c : Client) : (activeBackends c).length ≤ c.backends.length := by
  have := List.length_filter_le (fun i => (backendAt c i).active) (List.range c.backends.length)
  rw [List.length_range] at this
  exact this
theorem gen_len (c : Client) : (genB c).length ≤ c.backends.length := by
  unfold genB
  split
  · exact active_len c
  · exact Nat.le_trans (List.length_filter_le _ _) (active_len c)
theorem cand_len (c : Client) (t : List Nat) : (candidates c t).length ≤ c.backends.length := by
  rw [cand_is]
  unfold candL
  split
  · exact gen_len c
  · exact Nat.le_trans (List.length_filter_le _ _) (gen_len c)
theorem gen_nodup (c : Client) : (genB c).Nodup := by
  unfold genB
  split
  · exact active_nodup c
  · exact List.Pairwise.filter _ (active_nodup c)
theorem cand_nodup (c : Client) (t : List Nat) : (candidates c t).Nodup := by
  rw [cand_is]
  unfold candL
  split
  · exact gen_nodup c
  · exact List.Pairwise.filter _ (gen_nodup c)
theorem gen_some {c : Client} (h : activeBackends c ≠ []) : genB c ≠ [] := by
  unfold genB
  split
  · exact h
  · rename_i n
    simpa using n
theorem cand_some {c : Client} {t : List Nat} (h : activeBackends c ≠ []) : candidates c t ≠ [] := by
  rw [cand_is]
  unfold candL
  split
  · exact gen_some h
  · rename_i n
    intro z
    rw [z] at n
    exact n rfl
theorem cand_nil {c : Client} {t : List Nat} (h : activeBackends c = []) : candidates c t = [] := by
  cases e : candidates c t with
  | nil => rfl
  | cons x r =>
    have := cand_sub (c := c) (t := t) (i := x) (by rw [e]; simp)
    rw [h] at this
    cases this
/-- the client with the balancer moved behind a choice -/
def moved (c : Client) (l : List Nat) (ch : Nat) : Client := match c.policy.balancer with
  | 0 => { c with pointer := ch + 1 }
  | 1 => { c with backends := c.backends.zipIdx.map fun x => if l.contains x.2 then { x.1 with current := x.1.current + x.1.weight - (if x.2 = ch then (((l.map fun i => (backendAt c i).weight).sum : Nat) : Int) else 0) } else x.1 }
  | _ => c
theorem choose_is (c : Client) (key : Nat) (t : List Nat) : choose c key t = (pick c.policy.balancer (candidates c t) c.pointer key (backendAt c)).map fun i => (i, moved c (candidates c t) i) := by
  unfold choose pick moved
  dsimp only
  obtain ⟨n, hn⟩ : ∃ n, c.policy.balancer = n := ⟨_, rfl⟩
  rw [hn]
  match n with
  | 0 =>
    show (match (candidates c t).find? fun i => decide (c.pointer ≤ i) with
      | some i => some (i, { c with pointer := i + 1 })
      | none => (candidates c t).head?.map fun i => (i, { c with pointer := i + 1 })) = Option.map _ (match (candidates c t).find? fun i => decide (c.pointer ≤ i) with
      | some i => some i
      | none => (candidates c t).head?)
    cases (candidates c t).find? fun i => decide (c.pointer ≤ i) with
    | none => rfl
    | some i => rfl
  | 1 => rfl
  | 2 => rfl
  | n + 3 => rfl
theorem moved_len (c : Client) (l : List Nat) (ch : Nat) : (moved c l ch).backends.length = c.backends.length := by
  unfold moved
  split
  · rfl
  · simp
  · rfl
def shifted (l : List Nat) (bk : Nat → Backend) (ch i : Nat) : Backend := if i ∈ l then { bk i with current := (bk i).current + (bk i).weight - (if i = ch then (((l.map fun i => (bk i).weight).sum : Nat) : Int) else 0) } else bk i
theorem moved_back (c : Client) (l : List Nat) (ch i : Nat) (h : i < c.backends.length) : backendAt (moved c l ch) i = if c.policy.balancer = 1 then shifted l (backendAt c) ch i else backendAt c i := by
  unfold moved
  split
  · rename_i e
    rw [e]
    rfl
  · rename_i e
    rw [if_pos e]
    unfold shifted
    have hb : c.backends[i]? = some (backendAt c i) := by rw [List.getElem?_eq_getElem h, ba_get h]
    have : backendAt { c with backends := c.backends.zipIdx.map fun x => if l.contains x.2 then { x.1 with current := x.1.current + x.1.weight - (if x.2 = ch then (((l.map fun i => (backendAt c i).weight).sum : Nat) : Int) else 0) } else x.1 } i =
        (if l.contains i then { backendAt c i with current := (backendAt c i).current + (backendAt c i).weight - (if i = ch then (((l.map fun i => (backendAt c i).weight).sum : Nat) : Int) else 0) } else backendAt c i) := by
      conv => lhs; unfold backendAt
      rw [List.getD_eq_getElem?_getD, List.getElem?_map, List.getElem?_zipIdx, hb]
      simp
      rfl
    rw [this]
    by_cases m : i ∈ l
    · rw [if_pos m, if_pos (List.contains_iff_mem.mpr m)]
    · rw [if_neg m, if_neg (by rw [List.contains_iff_mem]; exact m)]
  · rename_i h0 h1
    rw [if_neg h1]
theorem moved_out (c : Client) (l : List Nat) (ch i : Nat) (h : i < c.backends.length) : (backendAt (moved c l ch) i).outstanding = (backendAt c i).outstanding := by
  rw [moved_back c l ch i h]
  split
  · unfold shifted
    split <;> rfl
  · rfl
theorem moved_rest (c : Client) (l : List Nat) (ch : Nat) : (moved c l ch).policy = c.policy ∧ (moved c l ch).now = c.now ∧ (moved c l ch).calls = c.calls ∧ (moved c l ch).attempts = c.attempts := by
  unfold moved
  split <;> exact ⟨rfl, rfl, rfl, rfl⟩
/-! ### the tail of a failure -/
def retryOrEnd (c : Client) (call status pushback : Nat) : Client :=
  if pushback = 1 ∨ c.policy.maxAttempts ≤ (callAt c call).counted ∨ budgetAllows c = false then finishCall c call status
  else
    let r := retryDelay c call pushback
    if (callAt c call).deadline ≤ c.now + r.1 then finishCall { c with seed := r.2 } call status
    else { setCall { c with seed := r.2 } call { callAt c call with retries := (callAt c call).retries + 1, retryAt := some (c.now + r.1), hedgeAt := none } with retryCount := c.retryCount + 1 }
def charged (c : Client) : Client := { c with tokens := c.tokens - 1000 }
theorem failure_is (c : Client) (call status pushback : Nat) : handleFailure c call status pushback =
    if status = 100 ∧ (callAt c call).transparent = false ∧ c.now < (callAt c call).deadline then startAttempt { setCall c call { callAt c call with transparent := true } with transparentCount := c.transparentCount + 1 } call false
    else if isRetryable c call status = false then finishCall c call status
    else if runningOf c call ≠ [] then charged c else retryOrEnd (charged c) call status pushback := by
  unfold handleFailure retryOrEnd charged
  rfl
def ended (c : Client) (j : Nat) (s : AttemptState) : Client := release (setAttempt c j { attemptAt c j with state := s }) (attemptAt c j).backend
end Hm
namespace Hm
open Kp423
/-! ### what holds of every client that comes about -/
def wt (x : RemoteCall) : Nat := x.counted + (if x.transparent then 1 else 0)
def tot (c : Client) : Nat := (c.calls.map wt).sum
theorem sum_set {α : Type} (f : α → Nat) (x : α) : ∀ (l : List α) (i : Nat) (h : i < l.length), ((l.set i x).map f).sum + f l[i] = (l.map f).sum + f x
  | [], i, h => by simp at h
  | a :: r, 0, h => by simp; omega
  | a :: r, i + 1, h => by
    have := sum_set f x r i (by simpa using h)
    simp at this ⊢
    omega
structure PolOk (p : Policy) : Prop where
  bal : p.balancer ≤ 3
  att : 1 ≤ p.maxAttempts ∧ p.maxAttempts ≤ 5
  mul : p.multiplier ≤ 1000
  init : p.initialBackoff ≤ 10000
  maxb : p.maxBackoff ≤ 100000
  hedge : p.hedgeDelay ≤ 10000
  thr : p.threshold ≤ 10
  time : p.ejectionTime ≤ 100000
  per : p.ejectionPercent ≤ 100
  tok : p.maxTokens ≤ 1000
  ref : p.refund ≤ 1000
  ret : p.retryable.length ≤ 16
structure CaOk (m now : Nat) (x : RemoteCall) : Prop where
  counted : x.counted ≤ m
  retries : x.retries ≤ x.counted
  time : x.status = none → now ≤ x.deadline
  retry : ∀ t, x.retryAt = some t → x.counted < m
  hedge : ∀ t, x.hedgeAt = some t → x.counted < m
def onB (i : Nat) (a : Attempt) : Bool := isRunning a && a.backend == i
structure AtOk (c : Client) (a : Attempt) : Prop where
  call : a.call < c.calls.length
  backend : a.backend < c.backends.length
  time : a.startedAt ≤ (callAt c a.call).deadline
  run : isRunning a = true → (callAt c a.call).retries < (callAt c a.call).counted
structure Wf (c : Client) : Prop where
  pol : PolOk c.policy
  nb8 : c.backends.length ≤ 8
  nc60 : c.calls.length ≤ 60
  at' : ∀ j, j < c.attempts.length → AtOk c (attemptAt c j)
  out : ∀ i, i < c.backends.length → (backendAt c i).outstanding = c.attempts.countP (onB i)
  ca : ∀ i, i < c.calls.length → CaOk c.policy.maxAttempts c.now (callAt c i)
  cnt : c.attempts.length ≤ tot c
theorem sum_le {α : Type} (f : α → Nat) (m : Nat) : ∀ l : List α, (∀ x ∈ l, f x ≤ m) → (l.map f).sum ≤ l.length * m
  | [], _ => by simp
  | a :: r, h => by
    have h1 := h a (by simp)
    have h2 := sum_le f m r fun x hx => h x (by simp [hx])
    simp only [List.map_cons, List.sum_cons, List.length_cons, Nat.add_mul]
    omega
theorem all_calls {c : Client} {p : RemoteCall → Prop} (h : ∀ i, i < c.calls.length → p (callAt c i)) : ∀ x ∈ c.calls, p x := by
  intro x hx
  obtain ⟨i, hi, e⟩ := List.getElem_of_mem hx
  rw [← e, ca_get hi]
  exact h i hi
theorem Wf.few (h : Wf c) : c.attempts.length ≤ 360 := by
  have h1 : tot c ≤ c.calls.length * 6 := sum_le wt 6 _ (all_calls fun i hi => by
    have h2 := (h.ca i hi).counted
    have h3 := h.pol.att.2
    unfold wt
    split <;> omega)
  have h4 := h.nc60
  have h5 := h.cnt
  omega
theorem Wf.retries (h : Wf c) {i : Nat} (hi : i < c.calls.length) : (callAt c i).retries ≤ 5 := by
  have h1 := (h.ca i hi).counted
  have h2 := (h.ca i hi).retries
  have h3 := h.pol.att.2
  omega
/-! what a part of the client is after a change -/
theorem bk_same {c : Client} {i : Nat} {b : Backend} (h : i < c.backends.length) : backendAt (setBackend c i b) i = b := by
  unfold backendAt setBackend
  rw [List.getD_eq_getElem?_getD, List.getElem?_set_self h]
  rfl
theorem bk_ne {c : Client} {i j : Nat} {b : Backend} (h : j ≠ i) : backendAt (setBackend c i b) j = backendAt c j := by
  unfold backendAt setBackend
  rw [List.getD_eq_getElem?_getD, List.getD_eq_getElem?_getD, List.getElem?_set_ne (fun z => h z.symm)]
theorem ca_same {c : Client} {i : Nat} {x : RemoteCall} (h : i < c.calls.length) : callAt (setCall c i x) i = x := by
  unfold callAt setCall
  rw [List.getD_eq_getElem?_getD, List.getElem?_set_self h]
  rfl
theorem ca_ne {c : Client} {i j : Nat} {x : RemoteCall} (h : j ≠ i) : callAt (setCall c i x) j = callAt c j := by
  unfold callAt setCall
  rw [List.getD_eq_getElem?_getD, List.getD_eq_getElem?_getD, List.getElem?_set_ne (fun z => h z.symm)]
theorem at_same {c : Client} {i : Nat} {x : Attempt} (h : i < c.attempts.length) : attemptAt (setAttempt c i x) i = x := by
  unfold attemptAt setAttempt
  rw [List.getD_eq_getElem?_getD, List.getElem?_set_self h]
  rfl
theorem at_ne {c : Client} {i j : Nat} {x : Attempt} (h : j ≠ i) : attemptAt (setAttempt c i x) j = attemptAt c j := by
  unfold attemptAt setAttempt
  rw [List.getD_eq_getElem?_getD, List.getD_eq_getElem?_getD, List.getElem?_set_ne (fun z => h z.symm)]
/-- the same parts, other numbers -/
theorem Wf.nums {c c' : Client} (h : Wf c) (ep : c'.policy = c.policy) (eb : c'.backends = c.backends) (ec : c'.calls = c.calls) (ea : c'.attempts = c.attempts) (en : ∀ i, i < c.calls.length → (callAt c i).status = none → c'.now ≤ (callAt c i).deadline) : Wf c' := by
  have e1 : ∀ j, attemptAt c' j = attemptAt c j := fun j => by unfold attemptAt; rw [ea]
  have e2 : ∀ j, callAt c' j = callAt c j := fun j => by unfold callAt; rw [ec]
  have e3 : ∀ j, backendAt c' j = backendAt c j := fun j => by unfold backendAt; rw [eb]
  refine ⟨by rw [ep]; exact h.pol, by rw [eb]; exact h.nb8, by rw [ec]; exact h.nc60, fun j hj => ?_, fun i hi => ?_, fun i hi => ?_, ?_⟩
  · rw [ea] at hj
    rw [e1]
    obtain ⟨a1, a2, a3, a4⟩ := h.at' j hj
    exact ⟨by rw [ec]; exact a1, by rw [eb]; exact a2, by rw [e2]; exact a3, by rw [e2]; exact a4⟩
  · rw [eb] at hi
    rw [e3, ea]
    exact h.out i hi
  · rw [ec] at hi
    rw [e2, ep]
    obtain ⟨a1, a2, a3, a4, a5⟩ := h.ca i hi
    exact ⟨a1, a2, en i hi, a4, a5⟩
  · unfold tot
    rw [ea, ec]
    exact h.cnt
theorem Wf.nums' {c c' : Client} (h : Wf c) (ep : c'.policy = c.policy) (eb : c'.backends = c.backends) (ec : c'.calls = c.calls) (ea : c'.attempts = c.attempts) (en : c'.now = c.now) : Wf c' :=
  h.nums ep eb ec ea fun i hi hs => by rw [en]; exact (h.ca i hi).time hs
/-- a backend's other attributes -/
theorem Wf.backs {c c' : Client} (h : Wf c) (ep : c'.policy = c.policy) (eb : c'.backends.length = c.backends.length) (ec : c'.calls = c.calls) (ea : c'.attempts = c.attempts) (en : c'.now = c.now) (eo : ∀ i, i < c.backends.length → (backendAt c' i).outstanding = (backendAt c i).outstanding) : Wf c' := by
  have e1 : ∀ j, attemptAt c' j = attemptAt c j := fun j => by unfold attemptAt; rw [ea]
  have e2 : ∀ j, callAt c' j = callAt c j := fun j => by unfold callAt; rw [ec]
  refine ⟨by rw [ep]; exact h.pol, by rw [eb]; exact h.nb8, by rw [ec]; exact h.nc60, fun j hj => ?_, fun i hi => ?_, fun i hi => ?_, ?_⟩
  · rw [ea] at hj
    rw [e1]
    obtain ⟨a1, a2, a3, a4⟩ := h.at' j hj
    exact ⟨by rw [ec]; exact a1, by rw [eb]; exact a2, by rw [e2]; exact a3, by rw [e2]; exact a4⟩
  · rw [eb] at hi
    rw [eo i hi, ea]
    exact h.out i hi
  · rw [ec] at hi
    rw [e2, ep, en]
    exact h.ca i hi
  · unfold tot
    rw [ea, ec]
    exact h.cnt
theorem Wf.setB {c : Client} (h : Wf c) {i : Nat} {b : Backend} (e : b.outstanding = (backendAt c i).outstanding) : Wf (setBackend c i b) := by
  refine h.backs rfl (by simp [setBackend]) rfl rfl rfl fun j hj => ?_
  by_cases z : j = i
  · subst z
    rw [bk_same hj, e]
  · rw [bk_ne z]
theorem Wf.moved {c : Client} (h : Wf c) (l : List Nat) (ch : Nat) : Wf (moved c l ch) :=
  h.backs (moved_rest c l ch).1 (moved_len c l ch) (moved_rest c l ch).2.2.1 (moved_rest c l ch).2.2.2 (moved_rest c l ch).2.1 fun i hi => moved_out c l ch i hi
/-- a call's attributes -/
theorem Wf.setC {c : Client} (h : Wf c) {i : Nat} {x : RemoteCall} (hi : i < c.calls.length) (hd : x.deadline = (callAt c i).deadline) (ho : CaOk c.policy.maxAttempts c.now x) (hw : wt (callAt c i) ≤ wt x)
    (hr : ∀ j, j < c.attempts.length → (attemptAt c j).call = i → isRunning (attemptAt c j) = true → x.retries < x.counted) : Wf (setCall c i x) := by
  have el : (setCall c i x).calls.length = c.calls.length := by simp [setCall]
  refine ⟨h.pol, h.nb8, by rw [el]; exact h.nc60, fun j hj => ?_, h.out, fun j hj => ?_, ?_⟩
  · obtain ⟨a1, a2, a3, a4⟩ := h.at' j hj
    refine ⟨by rw [el]; exact a1, a2, ?_, ?_⟩
    · show (attemptAt c j).startedAt ≤ (callAt (setCall c i x) (attemptAt c j).call).deadline
      by_cases z : (attemptAt c j).call = i
      · rw [z, ca_same hi, hd]
        rw [z] at a3
        exact a3
      · rw [ca_ne z]
        exact a3
    · show isRunning (attemptAt c j) = true → (callAt (setCall c i x) (attemptAt c j).call).retries < (callAt (setCall c i x) (attemptAt c j).call).counted
      intro q
      by_cases z : (attemptAt c j).call = i
      · rw [z, ca_same hi]
        exact hr j hj z q
      · rw [ca_ne z]
        exact a4 q
  · rw [el] at hj
    by_cases z : j = i
    · subst z
      rw [ca_same hj]
      exact ho
    · rw [ca_ne z]
      exact h.ca j hj
  · have e := sum_set wt x c.calls i hi
    rw [ca_get hi] at e
    have := h.cnt
    show c.attempts.length ≤ ((c.calls.set i x).map wt).sum
    unfold tot at this
    omega
/-- the call's numbers stay -/
theorem Wf.setC' {c : Client} (h : Wf c) {i : Nat} {x : RemoteCall} (hi : i < c.calls.length) (hd : x.deadline = (callAt c i).deadline) (e1 : x.counted = (callAt c i).counted) (e2 : x.retries = (callAt c i).retries) (e3 : x.transparent = (callAt c i).transparent)
    (ht : x.status = none → (callAt c i).status = none) (h4 : ∀ t, x.retryAt = some t → (callAt c i).retryAt = some t) (h5 : ∀ t, x.hedgeAt = some t → (callAt c i).hedgeAt = some t) : Wf (setCall c i x) := by
  have o := h.ca i hi
  refine h.setC hi hd ⟨by rw [e1]; exact o.counted, by rw [e1, e2]; exact o.retries, fun z => by rw [hd]; exact o.time (ht z), fun t z => by rw [e1]; exact o.retry t (h4 t z), fun t z => by rw [e1]; exact o.hedge t (h5 t z)⟩ (by unfold wt; rw [e1, e3]; exact Nat.le_refl _) fun j hj z q => ?_
  rw [e1, e2, ← z]
  exact (h.at' j hj).run q
/-- an attempt ends -/
theorem Wf.ended {c : Client} (h : Wf c) {j : Nat} {s : AttemptState} (hj : j < c.attempts.length) (hr : isRunning (attemptAt c j) = true) (hs : s ≠ .running) : Wf (ended c j s) := by
  have hb := (h.at' j hj).backend
  have el : (Hm.ended c j s).attempts.length = c.attempts.length := by simp [Hm.ended, release, setBackend, setAttempt]
  have eb : (Hm.ended c j s).backends.length = c.backends.length := by simp [Hm.ended, release, setBackend, setAttempt]
  have ns : (s == AttemptState.running) = false := by
    cases s with
    | running => exact absurd rfl hs
    | finished _ => rfl
    | cancelled => rfl
  have oc : ∀ i, (Hm.ended c j s).attempts.countP (onB i) = c.attempts.countP (onB i) - (if (attemptAt c j).backend = i then 1 else 0) := fun i => by
    show (c.attempts.set j { attemptAt c j with state := s }).countP (onB i) = _
    rw [List.countP_set hj, at_get hj]
    have e1 : onB i { attemptAt c j with state := s } = false := by
      unfold onB isRunning
      rw [ns]
      rfl
    have e2 : onB i (attemptAt c j) = ((attemptAt c j).backend == i) := by
      unfold onB
      rw [hr]
      rfl
    rw [e1, e2]
    by_cases z : (attemptAt c j).backend = i
    · simp [z]
    · simp [z]
  have ob : ∀ i, i < c.backends.length → (backendAt (Hm.ended c j s) i).outstanding = (backendAt c i).outstanding - (if (attemptAt c j).backend = i then 1 else 0) := fun i hi => by
    unfold Hm.ended release
    by_cases z : i = (attemptAt c j).backend
    · subst z
      rw [bk_same (c := setAttempt c j { attemptAt c j with state := s }) hb, if_pos rfl]
      rfl
    · rw [bk_ne z, if_neg (fun e => z e.symm)]
      rfl
  refine ⟨h.pol, by rw [eb]; exact h.nb8, h.nc60, fun m hm => ?_, fun i hi => ?_, h.ca, by rw [el]; exact h.cnt⟩
  · rw [el] at hm
    have key : ∀ a, AtOk c a → AtOk (Hm.ended c j s) a := fun a k => ⟨k.call, by rw [eb]; exact k.backend, k.time, k.run⟩
    show AtOk (Hm.ended c j s) (attemptAt (setAttempt c j { attemptAt c j with state := s }) m)
    by_cases z : m = j
    · subst z
      rw [at_same hm]
      have a := h.at' m hm
      refine key _ ⟨a.call, a.backend, a.time, fun q => ?_⟩
      unfold isRunning at q
      rw [show ({ attemptAt c m with state := s } : Attempt).state = s from rfl, ns] at q
      cases q
    · rw [at_ne z]
      exact key _ (h.at' m hm)
  · rw [eb] at hi
    rw [ob i hi, oc i, h.out i hi]
theorem Wf.one {c : Client} (h : Wf c) {j : Nat} (hj : j < c.attempts.length) (hr : isRunning (attemptAt c j) = true) : 1 ≤ (backendAt c (attemptAt c j).backend).outstanding := by
  rw [h.out _ (h.at' j hj).backend]
  refine List.countP_pos_iff.mpr ⟨attemptAt c j, ?_, ?_⟩
  · rw [← at_get hj]
    exact List.getElem_mem hj
  · unfold onB
    rw [hr]
    simp
theorem cancel_ended (c : Client) (j : Nat) : cancelAttempt c j = ended c j .cancelled := by
  rfl
/-- all the running attempts of a call end -/
theorem cancels {c : Client} : ∀ (l : List Nat) (d : Client), Wf d → l.Nodup → (∀ j ∈ l, j < d.attempts.length ∧ isRunning (attemptAt d j) = true) → Wf (l.foldl cancelAttempt d)
  | [], d, h, _, _ => h
  | j :: r, d, h, hn, hr => by
    obtain ⟨n1, n2⟩ := List.nodup_cons.mp hn
    obtain ⟨h1, h2⟩ := hr j (by simp)
    refine cancels (c := c) r (cancelAttempt d j) ?_ n2 fun m hm => ?_
    · rw [cancel_ended]
      exact h.ended h1 h2 (by intro z; cases z)
    · obtain ⟨m1, m2⟩ := hr m (by simp [hm])
      refine ⟨by simpa [cancelAttempt, release, setBackend, setAttempt] using m1, ?_⟩
      show isRunning (attemptAt (setAttempt d j _) m) = true
      rw [at_ne (show m ≠ j from fun z => n1 (z ▸ hm))]
      exact m2
theorem running_mem {c : Client} {i j : Nat} (h : j ∈ runningOf c i) : j < c.attempts.length ∧ isRunning (attemptAt c j) = true ∧ (attemptAt c j).call = i := by
  unfold runningOf runningAttempts at h
  obtain ⟨h1, h2⟩ := List.mem_filter.mp h
  obtain ⟨h3, h4⟩ := List.mem_filter.mp h1
  exact ⟨List.mem_range.mp h3, h4, by simpa using h2⟩
theorem running_nodup (c : Client) (i : Nat) : (runningOf c i).Nodup := List.Pairwise.filter _ (List.Pairwise.filter _ List.nodup_range)
def closed (c : Client) (call status : Nat) : Client := setCall c call { callAt c call with status := some status, finishedAt := c.now, retryAt := none, hedgeAt := none }
theorem finish_is (c : Client) (call status : Nat) : finishCall c call status = (runningOf c call).foldl cancelAttempt (closed c call status) := rfl
theorem Wf.closed {c : Client} (h : Wf c) {i s : Nat} (hi : i < c.calls.length) : Wf (closed c i s) := h.setC' hi rfl rfl rfl rfl (fun z => by cases z) (fun t z => by cases z) fun t z => by cases z
theorem Wf.finish {c : Client} (h : Wf c) {i s : Nat} (hi : i < c.calls.length) : Wf (finishCall c i s) := by
  rw [finish_is]
  exact cancels (c := c) _ _ (h.closed hi) (running_nodup c i) fun j hj => ⟨(running_mem hj).1, (running_mem hj).2.1⟩
theorem Wf.note {c : Client} (h : Wf c) (i : Nat) : Wf (noteFailure c i) := by
  unfold noteFailure
  dsimp only
  split <;> exact h.setB rfl
theorem Wf.charged {c : Client} (h : Wf c) : Wf (charged c) := h.nums' rfl rfl rfl rfl rfl
/-! a new attempt -/
def hedgeT (c : Client) (x : RemoteCall) : Option Nat := if c.policy.hedgeDelay ≠ 0 ∧ x.idempotent = true ∧ x.counted < c.policy.maxAttempts then some (c.now + c.policy.hedgeDelay) else none
def recounted (x : RemoteCall) (isCounted : Bool) : RemoteCall := { x with counted := x.counted + (if isCounted then 1 else 0), retryAt := none }
/-- ch is the client behind the choice of backend b -/
def added (c ch : Client) (call b : Nat) : Client := { ch with attempts := ch.attempts ++ [⟨call, b, (attsOf c call).length + 1, c.now, .running⟩] }
def started (c ch : Client) (call b : Nat) (isCounted : Bool) : Client :=
  let d := setBackend (added c ch call b) b { backendAt ch b with outstanding := (backendAt ch b).outstanding + 1 }
  setCall d call { recounted (callAt c call) isCounted with hedgeAt := hedgeT c (recounted (callAt c call) isCounted) }
theorem start_is (c : Client) (call : Nat) (isCounted : Bool) : startAttempt c call isCounted = match choose c (callAt c call).key (triedBackends c call) with
    | none => finishCall c call 14
    | some (b, ch) => started c ch call b isCounted := by
  unfold startAttempt
  dsimp only
  cases h : choose c (callAt c call).key (triedBackends c call) with
  | none => rfl
  | some p =>
    obtain ⟨b, ch⟩ := p
    dsimp only
    unfold started added recounted hedgeT setCall setBackend
    rw [tried_len]
theorem start_none {c : Client} {i : Nat} {k : Bool} (h : activeBackends c = []) : startAttempt c i k = finishCall c i 14 := by
  rw [start_is, choose_is, cand_nil h]
  have : pick c.policy.balancer [] c.pointer (callAt c i).key (backendAt c) = none := by
    unfold pick
    split <;> rfl
  rw [this]
  rfl
theorem start_some {c : Client} {i : Nat} {k : Bool} (h : activeBackends c ≠ []) : ∃ b, pick c.policy.balancer (candidates c (triedBackends c i)) c.pointer (callAt c i).key (backendAt c) = some b ∧ b ∈ candidates c (triedBackends c i) ∧ b < c.backends.length ∧
    startAttempt c i k = started c (moved c (candidates c (triedBackends c i)) b) i b k := by
  obtain ⟨b, h1, h2⟩ := pick_some (bal := c.policy.balancer) (ptr := c.pointer) (key := (callAt c i).key) (bk := backendAt c) (cand_some (t := triedBackends c i) h)
  refine ⟨b, h1, h2, active_lt (cand_sub h2), ?_⟩
  rw [start_is, choose_is, h1]
  rfl
theorem Wf.start {c : Client} (h : Wf c) {i : Nat} {k : Bool} (hi : i < c.calls.length) (hd : c.now ≤ (callAt c i).deadline) (hk : k = true → (callAt c i).counted < c.policy.maxAttempts)
    (hu : k = false → (callAt c i).retries < (callAt c i).counted ∧ c.attempts.length < tot c) : Wf (startAttempt c i k) := by
  by_cases ha : activeBackends c = []
  · rw [start_none ha]
    exact h.finish hi
  · obtain ⟨b, _, _, hb, e⟩ := start_some (i := i) (k := k) ha
    rw [e]
    generalize hch : Hm.moved c (candidates c (triedBackends c i)) b = ch
    have hm : Wf ch := hch ▸ h.moved _ b
    have r1 : ch.policy = c.policy := hch ▸ (moved_rest c _ b).1
    have r2 : ch.now = c.now := hch ▸ (moved_rest c _ b).2.1
    have r3 : ch.calls = c.calls := hch ▸ (moved_rest c _ b).2.2.1
    have r4 : ch.attempts = c.attempts := hch ▸ (moved_rest c _ b).2.2.2
    have r5 : ch.backends.length = c.backends.length := hch ▸ moved_len c _ b
    have e2 : ∀ j, callAt ch j = callAt c j := fun j => by unfold callAt; rw [r3]
    have ea : (started c ch i b k).attempts = ch.attempts ++ [⟨i, b, (attsOf c i).length + 1, c.now, .running⟩] := rfl
    have el : (started c ch i b k).calls = c.calls.set i { recounted (callAt c i) k with hedgeAt := hedgeT c (recounted (callAt c i) k) } := by rw [← r3]; rfl
    have eb : (started c ch i b k).backends.length = ch.backends.length := by simp [started, added, setBackend, setCall]
    have cs : callAt (started c ch i b k) i = { recounted (callAt c i) k with hedgeAt := hedgeT c (recounted (callAt c i) k) } := by
      unfold callAt
      rw [el, List.getD_eq_getElem?_getD, List.getElem?_set_self hi]
      rfl
    have cn : ∀ j, j ≠ i → callAt (started c ch i b k) j = callAt c j := fun j n => by
      unfold callAt
      rw [el, List.getD_eq_getElem?_getD, List.getD_eq_getElem?_getD, List.getElem?_set_ne (fun z => n z.symm)]
    have ct : (callAt c i).retries < (callAt c i).counted + (if k then 1 else 0) := by
      have := (h.ca i hi).retries
      cases k with
      | true => simp; omega
      | false => simpa using (hu rfl).1
    have cle : (callAt c i).counted + (if k then 1 else 0) ≤ c.policy.maxAttempts := by
      cases k with
      | true =>
        have := hk rfl
        simp
        omega
      | false => simpa using (h.ca i hi).counted
    refine ⟨by show PolOk ch.policy; rw [r1]; exact h.pol, by rw [eb, r5]; exact h.nb8, by rw [el, List.length_set]; exact h.nc60, fun j hj => ?_, fun m hm2 => ?_, fun m hm2 => ?_, ?_⟩
    · have lc : (started c ch i b k).calls.length = c.calls.length := by rw [el, List.length_set]
      have lb : (started c ch i b k).backends.length = c.backends.length := by rw [eb, r5]
      rw [ea, r4, List.length_append, List.length_singleton] at hj
      by_cases z : j = c.attempts.length
      · have : attemptAt (started c ch i b k) j = ⟨i, b, (attsOf c i).length + 1, c.now, .running⟩ := by
          unfold attemptAt
          rw [ea, r4, z, List.getD_eq_getElem?_getD, List.getElem?_append_right (Nat.le_refl _)]
          simp
        rw [this]
        refine ⟨by rw [lc]; exact hi, by rw [lb]; exact hb, ?_, fun _ => ?_⟩
        · rw [cs]
          exact hd
        · rw [cs]
          exact ct
      · have hj2 : j < c.attempts.length := by omega
        have : attemptAt (started c ch i b k) j = attemptAt c j := by
          unfold attemptAt
          rw [ea, r4, List.getD_eq_getElem?_getD, List.getD_eq_getElem?_getD, List.getElem?_append_left hj2]
        rw [this]
        obtain ⟨a1, a2, a3, a4⟩ := h.at' j hj2
        refine ⟨by rw [lc]; exact a1, by rw [lb]; exact a2, ?_, fun q => ?_⟩
        · by_cases y : (attemptAt c j).call = i
          · rw [y, cs]
            rw [y] at a3
            exact a3
          · rw [cn _ y]
            exact a3
        · by_cases y : (attemptAt c j).call = i
          · rw [y, cs]
            exact ct
          · rw [cn _ y]
            exact a4 q
    · rw [eb] at hm2
      rw [ea, List.countP_append, ← hm.out m hm2]
      show (backendAt (setBackend (added c ch i b) b { backendAt ch b with outstanding := (backendAt ch b).outstanding + 1 }) m).outstanding = _
      have o1 : List.countP (onB m) [(⟨i, b, (attsOf c i).length + 1, c.now, .running⟩ : Attempt)] = if b = m then 1 else 0 := by
        by_cases y : b = m
        · simp [onB, isRunning, y]
        · simp [onB, isRunning, y]
      rw [o1]
      by_cases y : m = b
      · subst y
        rw [bk_same (by exact hm2), if_pos rfl]
      · rw [bk_ne y, if_neg (fun z => y z.symm)]
        rfl
    · rw [el, List.length_set] at hm2
      have en : (started c ch i b k).now = c.now := by rw [← r2]; rfl
      have ep : (started c ch i b k).policy = c.policy := by rw [← r1]; rfl
      rw [en, ep]
      by_cases y : m = i
      · subst y
        rw [cs]
        refine ⟨cle, Nat.le_of_lt ct, (h.ca m hi).time, (fun t z => by cases z), fun t z => ?_⟩
        have z2 : hedgeT c (recounted (callAt c m) k) = some t := z
        unfold hedgeT at z2
        split at z2
        · rename_i q
          exact q.2.2
        · cases z2
      · rw [cn _ y]
        exact h.ca m hm2
    · have e := sum_set wt { recounted (callAt c i) k with hedgeAt := hedgeT c (recounted (callAt c i) k) } c.calls i hi
      rw [ca_get hi] at e
      have w : wt { recounted (callAt c i) k with hedgeAt := hedgeT c (recounted (callAt c i) k) } = wt (callAt c i) + (if k then 1 else 0) := by
        unfold wt recounted
        dsimp only
        omega
      rw [w] at e
      unfold tot
      rw [ea, r4, el, List.length_append, List.length_singleton]
      have q := h.cnt
      unfold tot at q
      cases k with
      | true =>
        rw [if_pos rfl] at e
        omega
      | false =>
        have := (hu rfl).2
        unfold tot at this
        rw [if_neg (by decide)] at e
        omega
/-! a failure -/
theorem Wf.retryEnd {c : Client} (h : Wf c) {i s p : Nat} (hi : i < c.calls.length) (hr : (callAt c i).retries < (callAt c i).counted) (hn : runningOf c i = []) : Wf (retryOrEnd c i s p) := by
  unfold retryOrEnd
  dsimp only
  split
  · exact h.finish hi
  · rename_i n
    have h2 : Wf { c with seed := (retryDelay c i p).2 } := h.nums' rfl rfl rfl rfl rfl
    split
    · exact h2.finish hi
    · refine Wf.nums' (c := setCall { c with seed := (retryDelay c i p).2 } i { callAt c i with retries := (callAt c i).retries + 1, retryAt := some (c.now + (retryDelay c i p).1), hedgeAt := none }) ?_ rfl rfl rfl rfl rfl
      have o := h.ca i hi
      have hm : (callAt c i).counted < c.policy.maxAttempts := by
        have : ¬ c.policy.maxAttempts ≤ (callAt c i).counted := fun z => n (Or.inr (Or.inl z))
        omega
      refine h2.setC hi rfl ⟨o.counted, hr, o.time, fun _ _ => hm, fun t z => by cases z⟩ (Nat.le_refl _) fun j hj y q => ?_
      have : j ∈ runningOf c i := by
        unfold runningOf runningAttempts
        exact List.mem_filter.mpr ⟨List.mem_filter.mpr ⟨List.mem_range.mpr hj, q⟩, by rw [beq_iff_eq]; exact y⟩
      rw [hn] at this
      cases this
theorem Wf.failure {c : Client} (h : Wf c) {i s p : Nat} (hi : i < c.calls.length) (hr : (callAt c i).retries < (callAt c i).counted) : Wf (handleFailure c i s p) := by
  rw [failure_is]
  split
  · rename_i q
    obtain ⟨_, q2, q3⟩ := q
    have hs : Wf (setCall c i { callAt c i with transparent := true }) := by
      have o := h.ca i hi
      refine h.setC hi rfl ⟨o.counted, o.retries, o.time, o.retry, o.hedge⟩ (by unfold wt; rw [q2]; simp) fun j hj y q => ?_
      rw [← y]
      exact (h.at' j hj).run q
    have hs2 : Wf { setCall c i { callAt c i with transparent := true } with transparentCount := c.transparentCount + 1 } := hs.nums' rfl rfl rfl rfl rfl
    have hc2 : i < (setCall c i { callAt c i with transparent := true }).calls.length := by simpa [setCall] using hi
    have hca : callAt { setCall c i { callAt c i with transparent := true } with transparentCount := c.transparentCount + 1 } i = { callAt c i with transparent := true } := ca_same hi
    refine hs2.start hc2 ?_ (fun z => by cases z) fun _ => ⟨?_, ?_⟩
    · rw [hca]
      exact Nat.le_of_lt q3
    · rw [hca]
      exact hr
    · have e := sum_set wt { callAt c i with transparent := true } c.calls i hi
      rw [ca_get hi] at e
      have w : wt { callAt c i with transparent := true } = wt (callAt c i) + 1 := by
        unfold wt
        rw [q2]
        simp
      rw [w] at e
      have := h.cnt
      unfold tot at this
      show c.attempts.length < ((c.calls.set i { callAt c i with transparent := true }).map wt).sum
      omega
  · split
    · exact h.finish hi
    · split
      · exact h.charged
      · rename_i n
        have hn : runningOf c i = [] := by
          cases e : runningOf c i with
          | nil => rfl
          | cons x r => exact absurd (by rw [e]; intro z; cases z) n
        exact h.charged.retryEnd hi hr hn
/-- the parts of completeAttempt -/
def cleared (c : Client) (b : Nat) : Client := setBackend c b { backendAt c b with failures := 0 }
theorem complete_is (c : Client) (i status pushback : Nat) : completeAttempt c i status pushback =
    if status = 0 then finishCall { cleared (ended c i (.finished status)) (attemptAt c i).backend with tokens := min (c.policy.maxTokens * 1000) (c.tokens + c.policy.refund) } (attemptAt c i).call 0
    else handleFailure (if status = 2 ∨ status = 14 then noteFailure (ended c i (.finished status)) (attemptAt c i).backend else ended c i (.finished status)) (attemptAt c i).call status pushback := by
  unfold completeAttempt
  rfl
theorem Wf.complete {c : Client} (h : Wf c) {j s p : Nat} (hj : j < c.attempts.length) (hr : isRunning (attemptAt c j) = true) : Wf (completeAttempt c j s p) := by
  rw [complete_is]
  have he : Wf (Hm.ended c j (.finished s)) := h.ended hj hr (by intro z; cases z)
  have a := h.at' j hj
  split
  · exact (Wf.nums' (c := cleared (Hm.ended c j (.finished s)) (attemptAt c j).backend) (c' := { cleared (Hm.ended c j (.finished s)) (attemptAt c j).backend with tokens := min (c.policy.maxTokens * 1000) (c.tokens + c.policy.refund) }) (he.setB rfl) rfl rfl rfl rfl rfl).finish a.call
  · split
    · have hn := he.note (attemptAt c j).backend
      have e : ∀ d i, (noteFailure d i).calls = d.calls := fun d i => by
        unfold noteFailure
        dsimp only
        split <;> rfl
      have e2 : ∀ k, callAt (noteFailure (Hm.ended c j (.finished s)) (attemptAt c j).backend) k = callAt c k := fun k => by
        unfold callAt
        rw [e]
        rfl
      refine hn.failure (by rw [e]; exact a.call) ?_
      rw [e2]
      exact a.run hr
    · exact he.failure a.call (a.run hr)
end Hm
namespace Hm
open Kp423
/-! ### ejections -/
def toEject (c : Client) (i : Nat) : Bool := !(decide (c.policy.threshold = 0) || (decide ((backendAt c i).failures < c.policy.threshold) || !((backendAt c i).active && !isEjected c i))) && decide (ejectedCount c < ejectionLimit c)
def failed (c : Client) (i : Nat) : Client := setBackend c i { backendAt c i with failures := (backendAt c i).failures + 1 }
def thrown (c : Client) (i : Nat) : Client := setBackend c i { backendAt c i with failures := 0, ejections := (backendAt c i).ejections + 1, ejectedUntil := some (c.now + c.policy.ejectionTime * ((backendAt c i).ejections + 1)) }
theorem failed_parts (c : Client) (i m : Nat) (hi : i < c.backends.length) : (backendAt (failed c i) m).active = (backendAt c m).active ∧ (backendAt (failed c i) m).ejectedUntil = (backendAt c m).ejectedUntil := by
  unfold failed
  by_cases z : m = i
  · subst z
    rw [bk_same hi]
    exact ⟨rfl, rfl⟩
  · rw [bk_ne z]
    exact ⟨rfl, rfl⟩
theorem note_is (c : Client) (i : Nat) (hi : i < c.backends.length) : noteFailure c i = if toEject (failed c i) i then thrown (failed c i) i else failed c i := by
  have hl : (failed c i).backends.length = c.backends.length := by simp [failed, setBackend]
  have ej : ∀ m, isEjected (failed c i) m = isEjected c m := fun m => by
    unfold isEjected
    rw [(failed_parts c i m hi).2]
    rfl
  have ac : activeBackends (failed c i) = activeBackends c := by
    unfold activeBackends
    rw [hl]
    exact List.filter_congr fun m _ => (failed_parts c i m hi).1
  have ec : ejectedCount (failed c i) = ejectedCount c := by
    unfold ejectedCount
    rw [ac]
    exact congrArg (fun f => List.countP f (activeBackends c)) (funext ej)
  have el : ejectionLimit (failed c i) = ejectionLimit c := by
    unfold ejectionLimit
    rw [ac]
    rfl
  have bs : backendAt (failed c i) i = { backendAt c i with failures := (backendAt c i).failures + 1 } := bk_same hi
  have two : ∀ b : Backend, setBackend (failed c i) i b = setBackend c i b := fun b => by
    unfold failed setBackend
    simp
  have t : thrown (failed c i) i = setBackend c i { backendAt c i with failures := 0, ejections := (backendAt c i).ejections + 1, ejectedUntil := some (c.now + c.policy.ejectionTime * ((backendAt c i).ejections + 1)) } := by
    unfold thrown
    rw [two, bs]
    rfl
  unfold noteFailure toEject
  dsimp only
  rw [ec, el, ej, bs, t]
  show (if _ then _ else failed c i) = _
  have ep : (failed c i).policy = c.policy := rfl
  rw [ep]
  refine ite_congr (propext ?_) (fun _ => rfl) (fun _ => rfl)
  simp only [Bool.and_eq_true, Bool.not_eq_true', Bool.or_eq_false_iff, decide_eq_false_iff_not, decide_eq_true_eq, Bool.not_eq_false']
  constructor
  · rintro ⟨h1, h2, h3, h4, h5⟩
    exact ⟨⟨h1, by omega, h3, h4⟩, h5⟩
  · rintro ⟨⟨h1, h2, h3, h4⟩, h5⟩
    exact ⟨h1, by omega, h3, h4, h5⟩
end Hm
namespace Hm
open Kp423
theorem setC2 (c : Client) (i : Nat) (x y : RemoteCall) : setCall (setCall c i x) i y = setCall c i y := by
  unfold setCall
  simp
theorem setB2 (c : Client) (i : Nat) (x y : Backend) : setBackend (setBackend c i x) i y = setBackend c i y := by
  unfold setBackend
  simp
/-- in the midst of the cancelling -/
theorem cancel_at {d0 : Client} {l : List Nat} (h : Wf d0) (hn : l.Nodup) (hr : ∀ j ∈ l, j < d0.attempts.length ∧ isRunning (attemptAt d0 j) = true) : ∀ n, n ≤ l.length →
    Wf ((l.take n).foldl cancelAttempt d0) ∧ ((l.take n).foldl cancelAttempt d0).attempts.length = d0.attempts.length ∧ ((l.take n).foldl cancelAttempt d0).calls = d0.calls ∧ ∀ j, j ∉ l.take n → attemptAt ((l.take n).foldl cancelAttempt d0) j = attemptAt d0 j
  | 0, _ => ⟨h, rfl, rfl, fun _ _ => rfl⟩
  | n + 1, hl => by
    obtain ⟨h1, h2, h3, h4⟩ := cancel_at h hn hr n (by omega)
    have hx : l[n]? = some l[n] := List.getElem?_eq_getElem (by omega)
    have et := take_more hx
    have hj : l[n] ∉ l.take n := fun hm => by
      obtain ⟨m, hm1, hm2⟩ := List.getElem_of_mem hm
      rw [List.length_take] at hm1
      rw [List.getElem_take] at hm2
      have := (List.getElem_inj hn).mp hm2
      omega
    obtain ⟨r1, r2⟩ := hr l[n] (List.getElem_mem _)
    rw [et, List.foldl_append]
    generalize hd : (l.take n).foldl cancelAttempt d0 = d at h1 h2 h3 h4
    show Wf (cancelAttempt d l[n]) ∧ (cancelAttempt d l[n]).attempts.length = _ ∧ (cancelAttempt d l[n]).calls = _ ∧ _
    refine ⟨?_, ?_, h3, fun j hm => ?_⟩
    · rw [cancel_ended]
      exact h1.ended (by omega) (by rw [h4 _ hj]; exact r2) (by intro z; cases z)
    · simp [cancelAttempt, release, setBackend, setAttempt, h2]
    · rw [List.mem_append, List.mem_singleton] at hm
      have e : attemptAt (cancelAttempt d l[n]) j = attemptAt d j := by
        show attemptAt (setAttempt d l[n] _) j = _
        exact at_ne (fun z => hm (Or.inr z))
      exact e.trans (h4 j fun z => hm (Or.inl z))
theorem hedge_ext {c d : Client} {x : RemoteCall} (hp : d.policy = c.policy) (hn : d.now = c.now) : hedgeT d x = hedgeT c x := by
  unfold hedgeT
  rw [hp, hn]
theorem ended_parts (c : Client) (j : Nat) (s : AttemptState) : (ended c j s).calls = c.calls ∧ (ended c j s).policy = c.policy ∧ (ended c j s).now = c.now ∧ (ended c j s).tokens = c.tokens ∧ (ended c j s).backends.length = c.backends.length ∧ (ended c j s).attempts.length = c.attempts.length :=
  ⟨rfl, rfl, rfl, rfl, by simp [ended, release, setBackend, setAttempt], by simp [ended, release, setBackend, setAttempt]⟩
theorem note_parts (c : Client) (i : Nat) : (noteFailure c i).calls = c.calls ∧ (noteFailure c i).attempts = c.attempts := by
  unfold noteFailure
  dsimp only
  split <;> exact ⟨rfl, rfl⟩
theorem moved0 {c : Client} {l : List Nat} {b : Nat} (h : c.policy.balancer = 0) : moved c l b = { c with pointer := b + 1 } := by
  unfold moved
  rw [h]
  rfl
theorem moved1 {c : Client} {l : List Nat} {b : Nat} (h : c.policy.balancer = 1) : { moved c l b with backends := c.backends } = c := by
  unfold moved
  rw [h]
  rfl
def tring (c : Client) (i : Nat) : Client := { setCall c i { callAt c i with transparent := true } with transparentCount := c.transparentCount + 1 }
theorem Wf.tring {c : Client} (h : Wf c) {i : Nat} (hi : i < c.calls.length) : Wf (tring c i) := by
  have hs : Wf (setCall c i { callAt c i with transparent := true }) := by
    have o := h.ca i hi
    refine h.setC hi rfl ⟨o.counted, o.retries, o.time, o.retry, o.hedge⟩ (by unfold wt; simp; split <;> omega) fun j hj y q => ?_
    rw [← y]
    exact (h.at' j hj).run q
  exact hs.nums' rfl rfl rfl rfl rfl
theorem cancels_hedge (n : Nat) : ∀ (l : List Nat) (c : Client), l.foldl cancelAttempt { c with hedgeCount := n } = { l.foldl cancelAttempt c with hedgeCount := n }
  | [], c => rfl
  | j :: r, c => by
    show r.foldl cancelAttempt { cancelAttempt c j with hedgeCount := n } = _
    rw [cancels_hedge n r (cancelAttempt c j)]
    rfl
theorem finish_hedge (c : Client) (n i s : Nat) : finishCall { c with hedgeCount := n } i s = { finishCall c i s with hedgeCount := n } := by
  rw [finish_is, finish_is]
  exact cancels_hedge n (runningOf c i) (closed c i s)
theorem moved_hedge (c : Client) (n : Nat) (l : List Nat) (b : Nat) : moved { c with hedgeCount := n } l b = { moved c l b with hedgeCount := n } := by
  unfold moved
  dsimp only
  split <;> rfl
theorem start_hedge (c : Client) (n i : Nat) (k : Bool) : startAttempt { c with hedgeCount := n } i k = { startAttempt c i k with hedgeCount := n } := by
  rw [start_is, start_is, choose_is, choose_is]
  have e : pick ({ c with hedgeCount := n } : Client).policy.balancer (candidates { c with hedgeCount := n } (triedBackends { c with hedgeCount := n } i)) ({ c with hedgeCount := n } : Client).pointer (callAt { c with hedgeCount := n } i).key (backendAt { c with hedgeCount := n }) = pick c.policy.balancer (candidates c (triedBackends c i)) c.pointer (callAt c i).key (backendAt c) := rfl
  rw [e]
  cases pick c.policy.balancer (candidates c (triedBackends c i)) c.pointer (callAt c i).key (backendAt c) with
  | none => exact finish_hedge c n i 14
  | some b =>
    show started { c with hedgeCount := n } (moved { c with hedgeCount := n } (candidates c (triedBackends c i)) b) i b k = _
    rw [moved_hedge]
    rfl
end Hm
namespace Hm
open Kp423
/-! ### the timers in order -/
def rawS (c : Client) : List Timer := (List.range c.calls.length).flatMap (timersOf c)
def minT (best : Option Timer) (t : Timer) : Option Timer := match best with
  | none => some t
  | some b => if before t b then some t else best
theorem next_is (c : Client) : nextTimer c = (rawS c).foldl minT none := rfl
theorem before_iff (a b : Timer) : before a b = true ↔ a.time < b.time ∨ (a.time = b.time ∧ (a.kind < b.kind ∨ (a.kind = b.kind ∧ a.call < b.call))) := by
  unfold before
  simp
theorem before_false (a b : Timer) : before a b = false ↔ b.time < a.time ∨ (a.time = b.time ∧ (b.kind < a.kind ∨ (a.kind = b.kind ∧ b.call ≤ a.call))) := by
  rw [← Bool.not_eq_true, before_iff]
  omega
theorem min_go : ∀ (l : List Timer) (b : Timer), ∃ t, l.foldl minT (some b) = some t ∧ t ∈ b :: l ∧ before b t = false ∧ ∀ x ∈ l, before x t = false
  | [], b => ⟨b, rfl, by simp, by rw [before_false]; omega, fun x hx => by cases hx⟩
  | a :: r, b => by
    show ∃ t, r.foldl minT (if before a b then some a else some b) = some t ∧ _
    by_cases h : before a b = true
    · rw [if_pos h]
      obtain ⟨t, h1, h2, h3, h4⟩ := min_go r a
      refine ⟨t, h1, ?_, ?_, fun x hx => ?_⟩
      · rcases List.mem_cons.mp h2 with z | z
        · simp [z]
        · simp [z]
      · rw [before_iff] at h
        rw [before_false] at h3 ⊢
        omega
      · rcases List.mem_cons.mp hx with z | z
        · rw [z]; exact h3
        · exact h4 x z
    · rw [if_neg h]
      obtain ⟨t, h1, h2, h3, h4⟩ := min_go r b
      refine ⟨t, h1, ?_, h3, fun x hx => ?_⟩
      · rcases List.mem_cons.mp h2 with z | z
        · simp [z]
        · simp [z]
      · rcases List.mem_cons.mp hx with z | z
        · rw [z]
          rw [Bool.not_eq_true, before_false] at h
          rw [before_false] at h3 ⊢
          omega
        · exact h4 x z
theorem next_none {c : Client} (h : nextTimer c = none) : rawS c = [] := by
  rw [next_is] at h
  cases e : rawS c with
  | nil => rfl
  | cons a r =>
    rw [e] at h
    obtain ⟨t, h1, _⟩ := min_go r a
    have h2 : r.foldl minT (some a) = none := h
    rw [h1] at h2
    cases h2
theorem next_some {c : Client} {t : Timer} (h : nextTimer c = some t) : t ∈ rawS c ∧ ∀ x ∈ rawS c, before x t = false := by
  rw [next_is] at h
  cases e : rawS c with
  | nil => rw [e] at h; cases h
  | cons a r =>
    rw [e] at h
    obtain ⟨t2, h1, h2, h3, h4⟩ := min_go r a
    have h5 : r.foldl minT (some a) = some t := h
    rw [h1] at h5
    cases h5
    exact ⟨h2, fun x hx => by
      rcases List.mem_cons.mp hx with z | z
      · rw [z]; exact h3
      · exact h4 x z⟩
theorem raw_mem {c : Client} {t : Timer} (h : t ∈ rawS c) : t.call < c.calls.length ∧ isOpen (callAt c t.call) = true ∧ ((t.kind = 0 ∧ t.time = (callAt c t.call).deadline) ∨ (t.kind = 1 ∧ (callAt c t.call).retryAt = some t.time) ∨ (t.kind = 2 ∧ (callAt c t.call).hedgeAt = some t.time)) := by
  obtain ⟨i, hi, ht⟩ := List.mem_flatMap.mp h
  have hi2 := List.mem_range.mp hi
  unfold timersOf at ht
  dsimp only at ht
  split at ht
  · rename_i ho
    rcases List.mem_append.mp ht with z | z
    · rcases List.mem_append.mp z with z | z
      · simp at z
        subst z
        exact ⟨hi2, ho, Or.inl ⟨rfl, rfl⟩⟩
      · split at z
        · cases z
        · rename_i t2 e
          simp at z
          subst z
          exact ⟨hi2, ho, Or.inr (Or.inl ⟨rfl, e⟩)⟩
    · split at z
      · cases z
      · rename_i t2 e
        simp at z
        subst z
        exact ⟨hi2, ho, Or.inr (Or.inr ⟨rfl, e⟩)⟩
  · cases ht
theorem raw_dead {c : Client} {i : Nat} (hi : i < c.calls.length) (ho : isOpen (callAt c i) = true) : (⟨(callAt c i).deadline, 0, i⟩ : Timer) ∈ rawS c := by
  refine List.mem_flatMap.mpr ⟨i, List.mem_range.mpr hi, ?_⟩
  unfold timersOf
  dsimp only
  rw [if_pos ho]
  simp
theorem open_iff (x : RemoteCall) : isOpen x = true ↔ x.status = none := by
  unfold isOpen
  exact Option.isNone_iff_eq_none
def nowC (c : Client) (t : Nat) : Client := { c with now := max c.now t }
theorem Wf.nowT {c : Client} (h : Wf c) {t : Nat} (ht : ∀ i, i < c.calls.length → isOpen (callAt c i) = true → t ≤ (callAt c i).deadline) : Wf (nowC c t) :=
  h.nums rfl rfl rfl rfl fun i hi hs => by
    have h1 := (h.ca i hi).time hs
    have h2 := ht i hi ((open_iff _).mpr hs)
    show max c.now t ≤ _
    omega
theorem Wf.nowN {c : Client} (h : Wf c) {t : Timer} (ht : nextTimer c = some t) : Wf (nowC c t.time) := by
  obtain ⟨h1, h2⟩ := next_some ht
  refine h.nowT fun i hi ho => ?_
  have := h2 _ (raw_dead hi ho)
  rw [before_false] at this
  simp at this
  omega
theorem Wf.fire {c : Client} (h : Wf c) {t : Timer} (ht : nextTimer c = some t) : Wf (fire (nowC c t.time) t) := by
  have hw := h.nowN ht
  obtain ⟨h1, h2, h3⟩ := raw_mem (next_some ht).1
  obtain ⟨tt, kd, ci⟩ := t
  dsimp only at *
  have ho := (open_iff _).mp h2
  have hn := (hw.ca ci h1).time ho
  have hc := h.ca ci h1
  rcases h3 with ⟨z1, z2⟩ | ⟨z1, z2⟩ | ⟨z1, z2⟩
  · subst z1
    exact hw.finish h1
  · subst z1
    exact hw.start h1 hn (fun _ => hc.retry _ z2) fun z => by cases z
  · subst z1
    show Wf (if budgetAllows (nowC c tt) then { startAttempt (nowC c tt) ci true with hedgeCount := (nowC c tt).hedgeCount + 1 } else setCall (nowC c tt) ci { callAt (nowC c tt) ci with hedgeAt := none })
    split
    · exact (hw.start h1 hn (fun _ => hc.hedge _ z2) fun z => by cases z).nums' rfl rfl rfl rfl rfl
    · exact hw.setC' h1 rfl rfl rfl rfl (fun z => z) (fun t z => z) fun t z => by cases z
/-! the firing ends -/
def mu1 (m : Nat) (x : RemoteCall) : Nat := if isOpen x then 1 + 2 * (m - x.counted) + (if x.hedgeAt.isSome then 1 else 0) else 0
def mu (c : Client) : Nat := (c.calls.map (mu1 c.policy.maxAttempts)).sum
theorem Wf.mu (h : Wf c) : mu c ≤ 720 := by
  have h1 : Hm.mu c ≤ c.calls.length * 12 := sum_le _ 12 _ (all_calls fun i hi => by
    have h3 := h.pol.att.2
    unfold mu1
    split
    · split <;> omega
    · omega)
  have := h.nc60
  omega
theorem mu_set {c d : Client} {i : Nat} {x : RemoteCall} (hi : i < c.calls.length) (hd : d.calls = c.calls.set i x) (hp : d.policy = c.policy) (hx : mu1 c.policy.maxAttempts x < mu1 c.policy.maxAttempts (callAt c i)) : mu d < mu c := by
  have e := sum_set (mu1 c.policy.maxAttempts) x c.calls i hi
  rw [ca_get hi] at e
  unfold mu
  rw [hd, hp]
  omega
theorem cancels_calls : ∀ (l : List Nat) (c : Client), (l.foldl cancelAttempt c).calls = c.calls ∧ (l.foldl cancelAttempt c).policy = c.policy ∧ (l.foldl cancelAttempt c).now = c.now
  | [], c => ⟨rfl, rfl, rfl⟩
  | j :: r, c => cancels_calls r (cancelAttempt c j)
theorem finish_calls (c : Client) (i s : Nat) : (finishCall c i s).calls = c.calls.set i { callAt c i with status := some s, finishedAt := c.now, retryAt := none, hedgeAt := none } ∧ (finishCall c i s).policy = c.policy ∧ (finishCall c i s).now = c.now := by
  rw [finish_is]
  exact cancels_calls _ _
theorem start_calls (c : Client) (i : Nat) (k : Bool) : (∃ x, (startAttempt c i k).calls = c.calls.set i x ∧ (isOpen x = false ∨ (isOpen x = isOpen (callAt c i) ∧ x.counted = (callAt c i).counted + (if k then 1 else 0)))) ∧ (startAttempt c i k).policy = c.policy ∧ (startAttempt c i k).now = c.now := by
  by_cases ha : activeBackends c = []
  · rw [start_none ha]
    obtain ⟨h1, h2, h3⟩ := finish_calls c i 14
    exact ⟨⟨_, h1, Or.inl rfl⟩, h2, h3⟩
  · obtain ⟨b, _, _, _, e⟩ := start_some (i := i) (k := k) ha
    rw [e]
    obtain ⟨r1, r2, r3, r4⟩ := moved_rest c (candidates c (triedBackends c i)) b
    refine ⟨⟨{ recounted (callAt c i) k with hedgeAt := hedgeT c (recounted (callAt c i) k) }, ?_, Or.inr ⟨rfl, rfl⟩⟩, ?_, ?_⟩
    · rw [← r3]
      rfl
    · rw [← r1]
      rfl
    · rw [← r2]
      rfl
theorem mu_fire {c : Client} (h : Wf c) {t : Timer} (ht : nextTimer c = some t) : mu (fire (nowC c t.time) t) < mu c := by
  obtain ⟨h1, h2, h3⟩ := raw_mem (next_some ht).1
  obtain ⟨tt, kd, ci⟩ := t
  dsimp only at *
  have hc := h.ca ci h1
  have pos : 0 < mu1 c.policy.maxAttempts (callAt c ci) := by
    unfold mu1
    rw [if_pos h2]
    omega
  have st : (callAt c ci).counted < c.policy.maxAttempts → mu (startAttempt (nowC c tt) ci true) < mu c := fun hm => by
    obtain ⟨⟨x, e1, e2⟩, e3, _⟩ := start_calls (nowC c tt) ci true
    refine mu_set h1 e1 e3 ?_
    rcases e2 with z | ⟨z1, z2⟩
    · unfold mu1
      rw [if_neg (by rw [z]; decide)]
      rw [if_pos h2]
      omega
    · have z3 : x.counted = (callAt c ci).counted + 1 := z2
      have z4 : isOpen x = isOpen (callAt c ci) := z1
      unfold mu1
      rw [z4, if_pos h2, if_pos h2, z3]
      split <;> split <;> omega
  rcases h3 with ⟨z1, z2⟩ | ⟨z1, z2⟩ | ⟨z1, z2⟩
  · subst z1
    obtain ⟨e1, e2, _⟩ := finish_calls (nowC c tt) ci statusDeadline
    refine mu_set h1 e1 e2 ?_
    exact Nat.lt_of_le_of_lt (Nat.le_of_eq rfl) pos
  · subst z1
    exact st (hc.retry _ z2)
  · subst z1
    show mu (if budgetAllows (nowC c tt) then { startAttempt (nowC c tt) ci true with hedgeCount := (nowC c tt).hedgeCount + 1 } else setCall (nowC c tt) ci { callAt (nowC c tt) ci with hedgeAt := none }) < mu c
    split
    · exact st (hc.hedge _ z2)
    · refine mu_set (d := setCall (nowC c tt) ci { callAt (nowC c tt) ci with hedgeAt := none }) (x := { callAt c ci with hedgeAt := none }) h1 rfl rfl ?_
      unfold mu1
      have : isOpen { callAt c ci with hedgeAt := none } = true := h2
      rw [this, if_pos rfl, if_pos h2, z2]
      simp
theorem fire_now (c : Client) (t : Timer) : (fire c t).now = c.now := by
  obtain ⟨tt, kd, ci⟩ := t
  match kd with
  | 0 => exact (finish_calls c ci 4).2.2
  | 1 => exact (start_calls c ci true).2.2
  | n + 2 =>
    show (if budgetAllows c then { startAttempt c ci true with hedgeCount := c.hedgeCount + 1 } else setCall c ci { callAt c ci with hedgeAt := none } : Client).now = c.now
    split
    · exact (start_calls c ci true).2.2
    · rfl
theorem fu_some {time fuel : Nat} {c : Client} {f : Nat} {t : Timer} (h : nextTimer c = some t) (ht : t.time ≤ time) : fireUntil time (fuel + 1) c f = fireUntil time fuel (fire (nowC c t.time) t) (f + 1) := by
  show (match nextTimer c with
    | none => ({ c with now := time }, f)
    | some t => if t.time ≤ time then fireUntil time fuel (fire { c with now := max c.now t.time } t) (f + 1) else ({ c with now := time }, f)) = _
  rw [h]
  exact if_pos ht
theorem fu_stop {time fuel : Nat} {c : Client} {f : Nat} (h : ∀ t, nextTimer c = some t → ¬ t.time ≤ time) : fireUntil time fuel c f = ({ c with now := time }, f) := by
  cases fuel with
  | zero => rfl
  | succ n =>
    show (match nextTimer c with
      | none => ({ c with now := time }, f)
      | some t => if t.time ≤ time then fireUntil time n (fire { c with now := max c.now t.time } t) (f + 1) else ({ c with now := time }, f)) = _
    cases e : nextTimer c with
    | none => rfl
    | some t => exact if_neg (h t e)
end Hm
namespace Hm
open Kp423
def newC (deadline : Nat) (idem : Bool) (key : Nat) : RemoteCall := ⟨deadline, idem, key, none, 0, 0, 0, false, none, none⟩
def withC (c : Client) (x : RemoteCall) : Client := { c with calls := c.calls ++ [x] }
theorem withC_old {c : Client} {x : RemoteCall} {i : Nat} (h : i < c.calls.length) : callAt (withC c x) i = callAt c i := by
  unfold callAt withC
  rw [List.getD_eq_getElem?_getD, List.getD_eq_getElem?_getD, List.getElem?_append_left h]
theorem withC_new {c : Client} {x : RemoteCall} : callAt (withC c x) c.calls.length = x := by
  unfold callAt withC
  rw [List.getD_eq_getElem?_getD, List.getElem?_append_right (Nat.le_refl _)]
  simp
theorem withC_len (c : Client) (x : RemoteCall) : (withC c x).calls.length = c.calls.length + 1 := by
  show (c.calls ++ [x]).length = _
  rw [List.length_append, List.length_singleton]
theorem Wf.addC {c : Client} (h : Wf c) (hn : c.calls.length < 60) {d k : Nat} {b : Bool} (hd : c.now ≤ d) : Wf (withC c (newC d b k)) := by
  refine ⟨h.pol, h.nb8, by rw [withC_len]; omega, fun j hj => ?_, h.out, fun i hi => ?_, ?_⟩
  · obtain ⟨a1, a2, a3, a4⟩ := h.at' j hj
    refine ⟨by rw [withC_len]; show (attemptAt c j).call < _; omega, a2, ?_, ?_⟩
    · show _ ≤ (callAt (withC c _) (attemptAt c j).call).deadline
      rw [withC_old a1]
      exact a3
    · show _ → (callAt (withC c _) (attemptAt c j).call).retries < (callAt (withC c _) (attemptAt c j).call).counted
      rw [withC_old a1]
      exact a4
  · rw [withC_len] at hi
    by_cases z : i = c.calls.length
    · rw [z, withC_new]
      exact ⟨Nat.zero_le _, Nat.zero_le _, fun _ => hd, (fun t z => by cases z), fun t z => by cases z⟩
    · rw [withC_old (by omega)]
      exact h.ca i (by omega)
  · unfold tot withC
    rw [List.map_append, List.sum_append]
    have := h.cnt
    unfold tot at this
    show c.attempts.length ≤ _
    omega
theorem atts_none {c : Client} (h : Wf c) : attsOf c c.calls.length = [] := by
  unfold attsOf
  refine List.filter_eq_nil_iff.mpr fun j hj => ?_
  have := (h.at' j (List.mem_range.mp hj)).call
  rw [beq_iff_eq]
  omega
theorem Wf.startC {c : Client} (h : Wf c) (hn : c.calls.length < 60) {d k : Nat} {b : Bool} (hd : c.now ≤ d) : Wf (startAttempt (withC c (newC d b k)) c.calls.length true) := by
  refine (h.addC hn hd).start (by rw [withC_len]; omega) ?_ (fun _ => ?_) fun z => by cases z
  · rw [withC_new]
    exact hd
  · rw [withC_new]
    have := h.pol.att.1
    show 0 < c.policy.maxAttempts
    omega
theorem startCall_is (c : Client) (t i k : Nat) : startCall c t i k = startAttempt (withC c (newC (c.now + t) (i == 1) k)) c.calls.length true := rfl
/-! the client at its beginning -/
def client0 (p : Policy) (seed : Nat) : Client := ⟨p, 0, seed, p.maxTokens * 1000, 0, [], [], [], 0, 0, 0⟩
theorem Wf.zero {p : Policy} (h : PolOk p) (s : Nat) : Wf (client0 p s) :=
  ⟨h, Nat.zero_le _, Nat.zero_le _, fun j hj => absurd hj (Nat.not_lt_zero j), fun j hj => absurd hj (Nat.not_lt_zero j), fun j hj => absurd hj (Nat.not_lt_zero j), Nat.le_refl _⟩
/-- a backend more -/
def withB (c : Client) (w : Nat) : Client := { c with backends := c.backends ++ [⟨true, w, 0, 0, 0, 0, none⟩] }
theorem withB_old {c : Client} {w i : Nat} (h : i < c.backends.length) : backendAt (withB c w) i = backendAt c i := by
  unfold backendAt withB
  rw [List.getD_eq_getElem?_getD, List.getD_eq_getElem?_getD, List.getElem?_append_left h]
theorem withB_new {c : Client} {w : Nat} : backendAt (withB c w) c.backends.length = ⟨true, w, 0, 0, 0, 0, none⟩ := by
  unfold backendAt withB
  rw [List.getD_eq_getElem?_getD, List.getElem?_append_right (Nat.le_refl _)]
  simp
theorem withB_len (c : Client) (w : Nat) : (withB c w).backends.length = c.backends.length + 1 := by
  show (c.backends ++ [_]).length = _
  rw [List.length_append, List.length_singleton]
theorem Wf.addB {c : Client} (h : Wf c) (hn : c.backends.length < 8) {w : Nat} : Wf (withB c w) := by
  refine ⟨h.pol, by rw [withB_len]; omega, h.nc60, fun j hj => ?_, fun i hi => ?_, h.ca, h.cnt⟩
  · obtain ⟨a1, a2, a3, a4⟩ := h.at' j hj
    exact ⟨a1, by rw [withB_len]; show (attemptAt c j).backend < _; omega, a3, a4⟩
  · rw [withB_len] at hi
    show _ = c.attempts.countP (onB i)
    by_cases z : i = c.backends.length
    · rw [z, withB_new]
      refine (List.countP_eq_zero.mpr fun a ha => ?_).symm
      obtain ⟨j, hj, e⟩ := List.getElem_of_mem ha
      have := (h.at' j hj).backend
      rw [← at_get hj, e] at this
      unfold onB
      simp
      intro _
      omega
    · rw [withB_old (by omega)]
      exact h.out i (by omega)
end Hm
namespace Hm
open Kp423
/-! ### attempts keep their call -/
structure Keep (c d : Client) : Prop where
  na : c.attempts.length ≤ d.attempts.length
  call : ∀ j, j < c.attempts.length → (attemptAt d j).call = (attemptAt c j).call
theorem Keep.refl (c : Client) : Keep c c := ⟨Nat.le_refl _, fun _ _ => rfl⟩
theorem Keep.trans {c d e : Client} (h : Keep c d) (k : Keep d e) : Keep c e := ⟨Nat.le_trans h.na k.na, fun j hj => (k.call j (Nat.lt_of_lt_of_le hj h.na)).trans (h.call j hj)⟩
theorem Keep.of {c d : Client} (h : d.attempts = c.attempts) : Keep c d := ⟨by rw [h]; exact Nat.le_refl _, fun j _ => by unfold attemptAt; rw [h]⟩
theorem Keep.ended (c : Client) (j : Nat) (s : AttemptState) : Keep c (ended c j s) := by
  have el : (Hm.ended c j s).attempts.length = c.attempts.length := by simp [Hm.ended, release, setBackend, setAttempt]
  refine ⟨Nat.le_of_eq el.symm, fun m hm => ?_⟩
  show (attemptAt (setAttempt c j { attemptAt c j with state := s }) m).call = _
  by_cases z : m = j
  · subst z
    rw [at_same hm]
  · rw [at_ne z]
theorem Keep.cancels : ∀ (l : List Nat) (c : Client), Keep c (l.foldl cancelAttempt c)
  | [], c => Keep.refl c
  | j :: r, c => by
    have h := Keep.ended c j .cancelled
    rw [← cancel_ended] at h
    exact h.trans (Keep.cancels r (cancelAttempt c j))
theorem Keep.finish (c : Client) (i s : Nat) : Keep c (finishCall c i s) := by
  rw [finish_is]
  exact (Keep.of (c := c) (d := closed c i s) rfl).trans (Keep.cancels _ _)
theorem Keep.start (c : Client) (i : Nat) (k : Bool) : Keep c (startAttempt c i k) := by
  by_cases ha : activeBackends c = []
  · rw [start_none ha]
    exact Keep.finish c i 14
  · obtain ⟨b, _, _, _, e⟩ := start_some (i := i) (k := k) ha
    rw [e]
    obtain ⟨_, _, _, r4⟩ := moved_rest c (candidates c (triedBackends c i)) b
    generalize moved c (candidates c (triedBackends c i)) b = ch at r4
    have ea : (started c ch i b k).attempts = c.attempts ++ [⟨i, b, (attsOf c i).length + 1, c.now, .running⟩] := by rw [← r4]; rfl
    refine ⟨by rw [ea]; simp, fun j hj => ?_⟩
    unfold attemptAt
    rw [ea, List.getD_eq_getElem?_getD, List.getD_eq_getElem?_getD, List.getElem?_append_left hj]
theorem Keep.failure (c : Client) (i s p : Nat) : Keep c (handleFailure c i s p) := by
  rw [failure_is]
  split
  · exact (Keep.of (c := c) (d := { setCall c i { callAt c i with transparent := true } with transparentCount := c.transparentCount + 1 }) rfl).trans (Keep.start _ i false)
  · split
    · exact Keep.finish c i s
    · split
      · exact Keep.of rfl
      · refine (Keep.of (c := c) (d := Hm.charged c) rfl).trans ?_
        unfold retryOrEnd
        dsimp only
        split
        · exact Keep.finish _ i s
        · split
          · exact (Keep.of (c := Hm.charged c) (d := { Hm.charged c with seed := (retryDelay (Hm.charged c) i p).2 }) rfl).trans (Keep.finish _ i s)
          · exact Keep.of rfl
theorem Keep.complete (c : Client) (j s p : Nat) : Keep c (completeAttempt c j s p) := by
  rw [complete_is]
  have he := Keep.ended c j (.finished s)
  split
  · exact (he.trans (Keep.of (c := Hm.ended c j (.finished s)) (d := { cleared (Hm.ended c j (.finished s)) (attemptAt c j).backend with tokens := min (c.policy.maxTokens * 1000) (c.tokens + c.policy.refund) }) rfl)).trans (Keep.finish _ _ 0)
  · split
    · exact (he.trans (Keep.of (note_parts _ _).2)).trans (Keep.failure _ _ s p)
    · exact he.trans (Keep.failure _ _ s p)
/-! ### every operation keeps it -/
theorem Wf.run1 {c : Client} (h : Wf c) (s : Nat) : Wf (runStep c s) := by
  unfold runStep
  split
  · rename_i a r e
    have hm : a ∈ runningAttempts c := by rw [e]; simp
    unfold runningAttempts at hm
    obtain ⟨h1, h2⟩ := List.mem_filter.mp hm
    exact h.complete (List.mem_range.mp h1) h2
  · split
    · exact h
    · rename_i t e
      exact h.fire e
theorem Wf.runs : ∀ (l : List Nat) (c : Client), Wf c → Wf (l.foldl runStep c)
  | [], _, h => h
  | s :: r, c, h => Wf.runs r (runStep c s) (h.run1 s)
def compl (d : Client) (a : Nat) : Client := if isRunning (attemptAt d a) then completeAttempt d a statusUnavailable 0 else d
theorem compl_wf {d : Client} (h : Wf d) {a : Nat} (ha : a < d.attempts.length) : Wf (compl d a) := by
  unfold compl
  split
  · exact h.complete ha (by assumption)
  · exact h
theorem compl_keep (d : Client) (a : Nat) : Keep d (compl d a) := by
  unfold compl
  split
  · exact Keep.complete _ _ _ _
  · exact Keep.refl d
def off (c : Client) (i : Nat) : Client := setBackend c i { backendAt c i with active := false }
def ownOf (c : Client) (i : Nat) : List Nat := (runningAttempts c).filter fun a => (attemptAt c a).backend == i
theorem remove_is (c : Client) (i : Nat) : removeBackend c i = (ownOf c i).foldl compl (off c i) := rfl
theorem own_lt {c : Client} {i a : Nat} (h : a ∈ ownOf c i) : a < c.attempts.length := by
  unfold ownOf runningAttempts at h
  exact List.mem_range.mp (List.mem_filter.mp (List.mem_filter.mp h).1).1
theorem compls_wf : ∀ (l : List Nat) (d : Client), Wf d → (∀ a ∈ l, a < d.attempts.length) → Wf (l.foldl compl d)
  | [], _, h, _ => h
  | a :: r, d, h, hl => compls_wf r (compl d a) (compl_wf h (hl a (by simp))) fun b hb => Nat.lt_of_lt_of_le (hl b (by simp [hb])) (compl_keep d a).na
theorem Wf.off {c : Client} (h : Wf c) (i : Nat) : Wf (off c i) := h.setB rfl
theorem Wf.remove {c : Client} (h : Wf c) (i : Nat) : Wf (removeBackend c i) := by
  rw [remove_is]
  exact compls_wf _ _ (h.off i) fun a ha => own_lt ha
theorem Wf.until {time : Nat} : ∀ (fuel : Nat) (c : Client) (f : Nat), Wf c → Hm.mu c < fuel → c.now ≤ time → Wf (fireUntil time fuel c f).1
  | 0, c, f, _, hm, _ => absurd hm (Nat.not_lt_zero _)
  | fuel + 1, c, f, h, hm, hn => by
    cases e : nextTimer c with
    | none =>
      rw [fu_stop fun t z => by rw [e] at z; cases z]
      refine h.nums rfl rfl rfl rfl fun i hi hs => ?_
      have hr := raw_dead hi ((open_iff _).mpr hs)
      rw [next_none e] at hr
      cases hr
    | some t =>
      by_cases ht : t.time ≤ time
      · rw [fu_some e ht]
        have hf := mu_fire h e
        refine Wf.until fuel _ (f + 1) (h.fire e) (by omega) ?_
        rw [fire_now]
        show max c.now t.time ≤ time
        omega
      · rw [fu_stop fun t2 z => by rw [e] at z; cases z; exact ht]
        refine h.nums rfl rfl rfl rfl fun i hi hs => ?_
        have hr := (next_some e).2 _ (raw_dead hi ((open_iff _).mpr hs))
        rw [before_false] at hr
        simp at hr
        show time ≤ _
        omega
theorem pol_ok {b : Nat} {l : List Nat} {p : Policy} (h : parsePolicy b l = some p) : PolOk p := by
  unfold parsePolicy at h
  split at h
  · split at h
    · rename_i q
      simp only [Bool.and_eq_true, decide_eq_true_eq, inRange] at q
      cases h
      obtain ⟨q, q13⟩ := q
      obtain ⟨q, q12⟩ := q
      obtain ⟨q, q11⟩ := q
      obtain ⟨q, q10⟩ := q
      obtain ⟨q, q9⟩ := q
      obtain ⟨q, q8⟩ := q
      obtain ⟨q, q7⟩ := q
      obtain ⟨q, q6⟩ := q
      obtain ⟨q, q5⟩ := q
      obtain ⟨q, q4⟩ := q
      obtain ⟨q, q3⟩ := q
      obtain ⟨q1, q2⟩ := q
      exact ⟨q1, q2, q5.2, q3, q4, q6, q7, q8.2, q9, q10, q11, q12⟩
    · cases h
  · cases h
def OkS (st : State) : Prop := ∀ c, st = some c → Wf c
theorem OkS.step {st : State} (h : OkS st) (x : Call) : OkS (Kp423.step st x).1 := by
  intro c' e
  cases st with
  | none =>
    cases x with
    | create seed balancer parameters =>
      simp only [Kp423.step] at e
      split at e
      · cases e
      · rename_i p hp
        split at e
        · cases e
        · cases e
          exact Wf.zero (pol_ok hp) seed
    | _ => cases e
  | some c =>
    have hc := h c rfl
    cases x with
    | create seed balancer parameters =>
      simp only [Kp423.step] at e
      split at e
      · cases e
        exact hc
      · rename_i p hp
        split at e
        · cases e
          exact hc
        · cases e
          exact Wf.zero (pol_ok hp) seed
    | addBackend w =>
      simp only [Kp423.step] at e
      split at e
      · cases e
        exact hc
      · split at e
        · cases e
          exact hc
        · rename_i n
          cases e
          exact hc.addB (w := w) (by unfold maxBackends at n; omega)
    | removeBackend i =>
      simp only [Kp423.step] at e
      split at e
      · cases e
        exact hc.remove i
      · cases e
        exact hc
    | setWeight i w =>
      simp only [Kp423.step] at e
      split at e
      · cases e
        exact hc
      · split at e
        · cases e
          exact hc
        · cases e
          exact hc.setB rfl
    | startCall t i k =>
      simp only [Kp423.step] at e
      split at e
      · cases e
        exact hc
      · split at e
        · cases e
          exact hc
        · rename_i n
          cases e
          rw [startCall_is]
          exact hc.startC (by unfold maxCalls at n; omega) (Nat.le_add_right _ _)
    | complete a s p =>
      simp only [Kp423.step] at e
      split at e
      · cases e
        exact hc
      · split at e
        · cases e
          exact hc
        · split at e
          · cases e
            exact hc
          · rename_i n1 n2 n3
            cases e
            refine hc.complete ?_ ?_
            · simpa [isAttempt] using n1
            · simpa using n3
    | cancel i =>
      simp only [Kp423.step] at e
      split at e
      · cases e
        exact hc
      · split at e
        · rename_i n1 n2
          cases e
          exact hc.finish (by simpa [isCall] using n1)
        · cases e
          exact hc
    | advance d =>
      simp only [Kp423.step] at e
      split at e
      · cases e
        exact hc
      · cases e
        exact Wf.until 1000 c 0 hc (Nat.lt_of_le_of_lt hc.mu (by decide)) (Nat.le_add_right _ _)
    | run l =>
      simp only [Kp423.step] at e
      split at e
      · cases e
        exact hc
      · cases e
        exact Wf.runs l c hc
    | _ =>
      cases e
      exact hc
end Hm
namespace Hm
open Kp423
theorem ranking_ok (c : Client) (key : Nat) : Ranked key (rankingOf c key) ∧ (rankingOf c key).Perm (activeBackends c) := by
  obtain ⟨h1, h2⟩ := ranking_go (key := key) (activeBackends c) [] List.Pairwise.nil (fun x q => by simp at q) (active_sorted c)
  rw [List.nil_append] at h2
  exact ⟨h1, h2⟩
theorem cand_nilT (c : Client) : candidates c [] = genB c := by
  rw [cand_is]
  unfold candL
  have : ((genB c).filter fun i => !([] : List Nat).contains i) = genB c := List.filter_eq_self.mpr fun _ _ => rfl
  rw [this]
  split <;> rfl
/-! the ends of the calls -/
def endedL (c : Client) : List Nat := (List.range c.calls.length).filter fun i => !isOpen (callAt c i)
def okL (c : Client) : List Nat := (endedL c).filter fun i => (callAt c i).status == some 0
theorem countP_range (c : Client) (p : RemoteCall → Bool) : ((List.range c.calls.length).filter fun i => p (callAt c i)).length = c.calls.countP p := by
  have e : c.calls = (List.range c.calls.length).map fun j => callAt c j := (range_getD _ _).symm
  conv => rhs; rw [e]
  rw [List.countP_map, ← List.countP_eq_length_filter]
  rfl
theorem ok_is (c : Client) : (okL c).length = c.calls.countP fun x => x.status == some 0 := by
  rw [← countP_range c fun x => x.status == some 0]
  unfold okL endedL
  rw [List.filter_filter]
  refine congrArg List.length (List.filter_congr fun i _ => ?_)
  unfold isOpen
  cases (callAt c i).status with
  | none => rfl
  | some s => simp
theorem split_len {α : Type} (p : α → Bool) : ∀ l : List α, l.length = (l.filter p).length + (l.filter fun x => !p x).length
  | [] => rfl
  | a :: r => by
    have ih := split_len p r
    rw [List.filter_cons, List.filter_cons]
    cases h : p a with
    | true => simp; omega
    | false => simp; omega
theorem bad_is (c : Client) : (endedL c).length - (okL c).length = c.calls.countP fun x => x.status.isSome && x.status != some 0 := by
  rw [← countP_range c fun x => x.status.isSome && x.status != some 0]
  have e : ((List.range c.calls.length).filter fun i => (callAt c i).status.isSome && (callAt c i).status != some 0) = (endedL c).filter fun i => !((callAt c i).status == some 0) := by
    unfold endedL
    rw [List.filter_filter]
    refine List.filter_congr fun i _ => ?_
    unfold isOpen
    cases (callAt c i).status with
    | none => rfl
    | some s => simp [bne]
  rw [e]
  unfold okL
  have h := split_len (fun i => (callAt c i).status == some 0) (endedL c)
  omega
theorem ok_le (c : Client) : (okL c).length ≤ (endedL c).length := List.length_filter_le _ _
theorem nums_is (a : Attempt) : attemptNumbers a = [match a.state with | .running => 0 | .finished _ => 1 | .cancelled => 2, match a.state with | .finished s => s | _ => 0] := by
  unfold attemptNumbers
  cases a.state <;> rfl
end Hm
namespace Hm
open Kp423
abbrev asInts (l : List Nat) : List Int := l.map fun (n : Nat) => (n : Int)
/-! ### the shapes of the calls -/
inductive N0 : Int → Kp423.Call → Prop
  | a : N0 8 .nextTimer
  | b : N0 14 .runningAttempts
  | c : N0 18 .availableBackends
  | d : N0 20 .budget
  | e : N0 21 .totals
  | f : N0 22 .status
inductive N1 : Int → (Nat → Kp423.Call) → Prop
  | a : N1 1 .addBackend
  | b : N1 2 .removeBackend
  | c : N1 6 .cancel
  | d : N1 7 .advance
  | e : N1 10 .callInfo
  | f : N1 11 .attemptInfo
  | g : N1 12 .callAttempts
  | h : N1 13 .backendInfo
  | i : N1 15 .previewChoice
  | j : N1 16 .ranking
  | k : N1 19 .backoffBound
inductive N2 : Int → (Nat → Nat → Kp423.Call) → Prop
  | a : N2 3 .setWeight
  | b : N2 17 .hash
inductive N3 : Int → (Nat → Nat → Nat → Kp423.Call) → Prop
  | a : N3 4 .startCall
  | b : N3 5 .complete
inductive Shape : Int → List Nat → Kp423.Call → Prop
  | create (a b : Nat) (l : List Nat) : Shape 0 (a :: b :: l) (.create a b l)
  | run (l : List Nat) : Shape 9 l (.run l)
  | n0 {z : Int} {x : Kp423.Call} (h : N0 z x) : Shape z [] x
  | n1 {z : Int} {g : Nat → Kp423.Call} (h : N1 z g) (a : Nat) : Shape z [a] (g a)
  | n2 {z : Int} {g : Nat → Nat → Kp423.Call} (h : N2 z g) (a b : Nat) : Shape z [a, b] (g a b)
  | n3 {z : Int} {g : Nat → Nat → Nat → Kp423.Call} (h : N3 z g) (a b c : Nat) : Shape z [a, b, c] (g a b c)
theorem back_toNat (l : List Nat) : (asInts l).map Int.toNat = l := by
  rw [List.map_map]
  exact (List.map_congr_left fun n _ => Int.toNat_natCast n).trans (List.map_id l)
theorem nil_of {l : List Nat} (h : asInts l = []) : l = [] := List.map_eq_nil_iff.mp h
theorem cons_of {l : List Nat} {a : Int} {r : List Int} (h : asInts l = a :: r) : ∃ (n : Nat) (m : List Nat), l = n :: m ∧ a = (n : Int) ∧ r = asInts m := by
  cases l with
  | nil => cases h
  | cons n m =>
    cases h
    exact ⟨n, m, rfl, rfl, rfl⟩
/-- a call that is asked is one of them -/
theorem shape_of {z : Int} {l : List Nat} (h : Kp423Neutral.asked1 [z :: asInts l] = true) : ∃ x, Kp423Neutral.callOf [z :: asInts l] = some x ∧ Shape z l x := by
  generalize hc : ([z :: asInts l] : List (List Int)) = c at h
  unfold Kp423Neutral.asked1 at h
  split at h
  · rename_i a b r
    injection hc with hc _
    injection hc with h1 h2
    obtain ⟨n1, m1, rfl, rfl, h3⟩ := cons_of h2
    obtain ⟨n2, m2, rfl, rfl, rfl⟩ := cons_of h3.symm
    subst h1
    refine ⟨_, rfl, ?_⟩
    rw [Int.toNat_natCast, Int.toNat_natCast, back_toNat]
    exact .create n1 n2 m2
  · rename_i a
    injection hc with hc _
    injection hc with h1 h2
    obtain ⟨n1, m1, rfl, rfl, h3⟩ := cons_of h2
    obtain rfl := nil_of h3.symm
    subst h1
    exact ⟨_, rfl, .n1 .a n1⟩
  · rename_i a
    injection hc with hc _
    injection hc with h1 h2
    obtain ⟨n1, m1, rfl, rfl, h3⟩ := cons_of h2
    obtain rfl := nil_of h3.symm
    subst h1
    exact ⟨_, rfl, .n1 .b n1⟩
  · rename_i a b
    injection hc with hc _
    injection hc with h1 h2
    obtain ⟨n1, m1, rfl, rfl, h3⟩ := cons_of h2
    obtain ⟨n2, m2, rfl, rfl, h4⟩ := cons_of h3.symm
    obtain rfl := nil_of h4.symm
    subst h1
    exact ⟨_, rfl, .n2 .a n1 n2⟩
  · rename_i a b d
    injection hc with hc _
    injection hc with h1 h2
    obtain ⟨n1, m1, rfl, rfl, h3⟩ := cons_of h2
    obtain ⟨n2, m2, rfl, rfl, h4⟩ := cons_of h3.symm
    obtain ⟨n3, m3, rfl, rfl, h5⟩ := cons_of h4.symm
    obtain rfl := nil_of h5.symm
    subst h1
    exact ⟨_, rfl, .n3 .a n1 n2 n3⟩
  · rename_i a b d
    injection hc with hc _
    injection hc with h1 h2
    obtain ⟨n1, m1, rfl, rfl, h3⟩ := cons_of h2
    obtain ⟨n2, m2, rfl, rfl, h4⟩ := cons_of h3.symm
    obtain ⟨n3, m3, rfl, rfl, h5⟩ := cons_of h4.symm
    obtain rfl := nil_of h5.symm
    subst h1
    exact ⟨_, rfl, .n3 .b n1 n2 n3⟩
  · rename_i a
    injection hc with hc _
    injection hc with h1 h2
    obtain ⟨n1, m1, rfl, rfl, h3⟩ := cons_of h2
    obtain rfl := nil_of h3.symm
    subst h1
    exact ⟨_, rfl, .n1 .c n1⟩
  · rename_i a
    injection hc with hc _
    injection hc with h1 h2
    obtain ⟨n1, m1, rfl, rfl, h3⟩ := cons_of h2
    obtain rfl := nil_of h3.symm
    subst h1
    exact ⟨_, rfl, .n1 .d n1⟩
  · injection hc with hc _
    injection hc with h1 h2
    obtain rfl := nil_of h2
    subst h1
    exact ⟨_, rfl, .n0 .a⟩
  · rename_i r
    injection hc with hc _
    injection hc with h1 h2
    subst h1 h2
    refine ⟨.run ((asInts l).map Int.toNat), rfl, ?_⟩
    rw [back_toNat]
    exact .run l
  · rename_i a
    injection hc with hc _
    injection hc with h1 h2
    obtain ⟨n1, m1, rfl, rfl, h3⟩ := cons_of h2
    obtain rfl := nil_of h3.symm
    subst h1
    exact ⟨_, rfl, .n1 .e n1⟩
  · rename_i a
    injection hc with hc _
    injection hc with h1 h2
    obtain ⟨n1, m1, rfl, rfl, h3⟩ := cons_of h2
    obtain rfl := nil_of h3.symm
    subst h1
    exact ⟨_, rfl, .n1 .f n1⟩
  · rename_i a
    injection hc with hc _
    injection hc with h1 h2
    obtain ⟨n1, m1, rfl, rfl, h3⟩ := cons_of h2
    obtain rfl := nil_of h3.symm
    subst h1
    exact ⟨_, rfl, .n1 .g n1⟩
  · rename_i a
    injection hc with hc _
    injection hc with h1 h2
    obtain ⟨n1, m1, rfl, rfl, h3⟩ := cons_of h2
    obtain rfl := nil_of h3.symm
    subst h1
    exact ⟨_, rfl, .n1 .h n1⟩
  · injection hc with hc _
    injection hc with h1 h2
    obtain rfl := nil_of h2
    subst h1
    exact ⟨_, rfl, .n0 .b⟩
  · rename_i a
    injection hc with hc _
    injection hc with h1 h2
    obtain ⟨n1, m1, rfl, rfl, h3⟩ := cons_of h2
    obtain rfl := nil_of h3.symm
    subst h1
    exact ⟨_, rfl, .n1 .i n1⟩
  · rename_i a
    injection hc with hc _
    injection hc with h1 h2
    obtain ⟨n1, m1, rfl, rfl, h3⟩ := cons_of h2
    obtain rfl := nil_of h3.symm
    subst h1
    exact ⟨_, rfl, .n1 .j n1⟩
  · rename_i a b
    injection hc with hc _
    injection hc with h1 h2
    obtain ⟨n1, m1, rfl, rfl, h3⟩ := cons_of h2
    obtain ⟨n2, m2, rfl, rfl, h4⟩ := cons_of h3.symm
    obtain rfl := nil_of h4.symm
    subst h1
    exact ⟨_, rfl, .n2 .b n1 n2⟩
  · injection hc with hc _
    injection hc with h1 h2
    obtain rfl := nil_of h2
    subst h1
    exact ⟨_, rfl, .n0 .c⟩
  · rename_i a
    injection hc with hc _
    injection hc with h1 h2
    obtain ⟨n1, m1, rfl, rfl, h3⟩ := cons_of h2
    obtain rfl := nil_of h3.symm
    subst h1
    exact ⟨_, rfl, .n1 .k n1⟩
  · injection hc with hc _
    injection hc with h1 h2
    obtain rfl := nil_of h2
    subst h1
    exact ⟨_, rfl, .n0 .d⟩
  · injection hc with hc _
    injection hc with h1 h2
    obtain rfl := nil_of h2
    subst h1
    exact ⟨_, rfl, .n0 .e⟩
  · injection hc with hc _
    injection hc with h1 h2
    obtain rfl := nil_of h2
    subst h1
    exact ⟨_, rfl, .n0 .f⟩
  · cases h
theorem asked_one {c : List (List Int)} (h : Kp423Neutral.asked1 c = true) : ∃ l, c = [l] := by
  unfold Kp423Neutral.asked1 at h
  split at h
  all_goals first | exact ⟨_, rfl⟩ | cases h
/-! ### the list of the calls, place by place -/
theorem nat_list : ∀ {l : List Int}, (∀ x ∈ l, 0 ≤ x) → ∃ m : List Nat, l = asInts m
  | [], _ => ⟨[], rfl⟩
  | a :: r, h => by
    obtain ⟨m, hm⟩ := nat_list (l := r) fun x hx => h x (by simp [hx])
    have := h a (by simp)
    exact ⟨a.toNat :: m, by simp [hm, Int.toNat_of_nonneg this]⟩
theorem turn {f : Nat} {r : List Int} {cs : List (List (List Int))} (h : PyWide.calls f r = some cs) (ha : cs.all Kp423Neutral.asked1 = true) (hp : ∀ x ∈ r, 0 ≤ x) (hr : r ≠ []) :
    ∃ (p : Int) (l : List Nat) (t : List Int) (cs' : List (List (List Int))) (f' : Nat), r = p :: (l.length : Int) :: (asInts l ++ 0 :: t) ∧ PyWide.calls f' t = some cs' ∧ cs = [p :: asInts l] :: cs' ∧ Kp423Neutral.asked1 [p :: asInts l] = true ∧ cs'.all Kp423Neutral.asked1 = true := by
  cases r with
  | nil => exact absurd rfl hr
  | cons p r =>
    cases f with
    | zero => cases h
    | succ f =>
      unfold PyWide.calls at h
      split at h
      · cases h
      · rename_i c u hc
        split at h
        · cases h
        · rename_i cs' hcs
          cases h
          rw [List.all_cons, Bool.and_eq_true] at ha
          unfold PyWide.call at hc
          dsimp only at hc
          split at hc
          · cases hc
          · cases hc
          · rename_i ns k t hrow
            split at hc
            · rename_i hk
              split at hc
              · cases hc
              · rename_i xs u2 hrows
                cases hc
                obtain ⟨l0, hl0⟩ := asked_one ha.1
                injection hl0 with _ hxs
                subst hxs
                cases hkk : k.toNat with
                | succ m =>
                  rw [hkk] at hrows
                  unfold PyFlat.rows at hrows
                  split at hrows
                  · cases hrows
                  · split at hrows
                    · cases hrows
                    · cases hrows
                | zero =>
                  rw [hkk] at hrows
                  cases hrows
                  have hk0 : k = 0 := by omega
                  subst hk0
                  cases r with
                  | nil => cases hrow
                  | cons n r =>
                    unfold PyFlat.row at hrow
                    dsimp only at hrow
                    split at hrow
                    · rename_i hn
                      have e1 := congrArg Prod.fst (Option.some.inj hrow)
                      have e2 := congrArg Prod.snd (Option.some.inj hrow)
                      dsimp only at e1 e2
                      obtain ⟨m, hm⟩ := nat_list (l := ns) fun x hx => hp x (by
                        rw [← e1] at hx
                        have := List.mem_of_mem_take hx
                        simp [this])
                      subst hm
                      refine ⟨p, m, u, cs', f, ?_, hcs, rfl, ha.1, ha.2⟩
                      have lm : m.length = n.toNat := by
                        have := congrArg List.length e1
                        rw [List.length_take, List.length_map] at this
                        omega
                      have e3 : r = asInts m ++ 0 :: u := by rw [← e1, ← e2, List.take_append_drop]
                      rw [← e3]
                      have : (m.length : Int) = n := by rw [lm]; omega
                      rw [this]
                    · cases hrow
            · cases hc
theorem calls_nil {f : Nat} {cs : List (List (List Int))} (h : PyWide.calls f [] = some cs) : cs = [] := by
  unfold PyWide.calls at h
  cases f <;> (cases h; rfl)
/-- what is told of a state and the calls to come -/
def tellL (st : State) (cs : List (List (List Int))) : List Int := PyFlat.told (PyFlat.played Kp423Neutral.step st cs)
theorem tell_cons {st : State} {c : List (List Int)} {cs : List (List (List Int))} {x : Kp423.Call} (h : Kp423Neutral.callOf c = some x) : tellL st (c :: cs) = (((Kp423.step st x).2.num :: (Kp423.step st x).2.nums).length : Int) :: (((Kp423.step st x).2.num :: (Kp423.step st x).2.nums) ++ tellL (Kp423.step st x).1 cs) := by
  unfold tellL PyFlat.told
  have e1 : PyFlat.played Kp423Neutral.step st (c :: cs) = (Kp423Neutral.step st c).2 :: PyFlat.played Kp423Neutral.step (Kp423Neutral.step st c).1 cs := rfl
  rw [e1, List.flatMap_cons]
  have e : Kp423Neutral.step st c = ((Kp423.step st x).1, (Kp423.step st x).2.num :: (Kp423.step st x).2.nums) := by
    unfold Kp423Neutral.step
    rw [h]
  rw [e]
  rfl
end Hm
namespace Hm
open Kp423
/-! ### the parameters of a policy -/
def limL : List (Int × Int) := [(1, 5), (0, 10000), (0, 100000), (100, 1000), (0, 10000), (0, 10), (1, 100000), (0, 100), (0, 1000), (0, 1000)]
def within (a b c : Int) : Bool := decide (b ≤ a) && decide (a ≤ c)
def parOk (zs : List Int) : Bool := within zs.length 10 26 && ((zs.zip limL).all fun p => within p.1 p.2.1 p.2.2) && (zs.drop 10).all fun z => within z 1 16
def polL (p : Policy) : List Nat := [p.maxAttempts, p.initialBackoff, p.maxBackoff, p.multiplier, p.hedgeDelay, p.threshold, p.ejectionTime, p.ejectionPercent, p.maxTokens, p.refund] ++ p.retryable
theorem parse_yes {b : Nat} {l : List Nat} (hb : b ≤ 3) (h : parOk (asInts l) = true) : ∃ p, parsePolicy b l = some p ∧ p.balancer = b ∧ polL p = l := by
  unfold parOk at h
  rw [Bool.and_eq_true, Bool.and_eq_true] at h
  obtain ⟨⟨h1, h2⟩, h3⟩ := h
  unfold within at h1
  simp only [List.length_map, Bool.and_eq_true, decide_eq_true_eq] at h1
  match l, h1, h2, h3 with
  | a1 :: a2 :: a3 :: a4 :: a5 :: a6 :: a7 :: a8 :: a9 :: a10 :: r, h1, h2, h3 =>
    simp only [asInts, List.map_cons, limL, List.zip_cons_cons, List.all_cons, within, Bool.and_eq_true, decide_eq_true_eq] at h2
    simp only [List.length_cons] at h1
    have h4 : r.all (fun x => inRange 1 16 x) = true := by
      rw [List.all_eq_true]
      intro x hx
      have := List.all_eq_true.mp h3 (x : Int) (show (x : Int) ∈ asInts r from List.mem_map.mpr ⟨x, hx, rfl⟩)
      unfold within at this
      unfold inRange
      simp only [Bool.and_eq_true, decide_eq_true_eq] at this ⊢
      omega
    refine ⟨⟨b, a1, a2, a3, a4, a5, a6, a7, a8, a9, a10, r⟩, ?_, rfl, rfl⟩
    unfold parsePolicy
    dsimp only
    rw [if_pos]
    have rg : ∀ lo hi x : Nat, lo ≤ x ∧ x ≤ hi → inRange lo hi x = true := fun lo hi x z => by
      unfold inRange
      rw [Bool.and_eq_true, decide_eq_true_eq, decide_eq_true_eq]
      exact z
    simp only [Bool.and_eq_true, decide_eq_true_eq]
    exact ⟨⟨⟨⟨⟨⟨⟨⟨⟨⟨⟨⟨hb, rg _ _ _ (by omega)⟩, by omega⟩, by omega⟩, rg _ _ _ (by omega)⟩, by omega⟩, by omega⟩, rg _ _ _ (by omega)⟩, by omega⟩, by omega⟩, by omega⟩, by omega⟩, h4⟩
  | [], h1, _, _ => simp at h1
  | [_], h1, _, _ => simp at h1
  | [_, _], h1, _, _ => simp at h1
  | [_, _, _], h1, _, _ => simp at h1
  | [_, _, _, _], h1, _, _ => simp at h1
  | [_, _, _, _, _], h1, _, _ => simp at h1
  | [_, _, _, _, _, _], h1, _, _ => simp at h1
  | [_, _, _, _, _, _, _], h1, _, _ => simp at h1
  | [_, _, _, _, _, _, _, _], h1, _, _ => simp at h1
  | [_, _, _, _, _, _, _, _, _], h1, _, _ => simp at h1
theorem parse_back {b : Nat} {l : List Nat} {p : Policy} (h : parsePolicy b l = some p) : b ≤ 3 ∧ parOk (asInts l) = true := by
  unfold parsePolicy at h
  split at h
  · rename_i a1 a2 a3 a4 a5 a6 a7 a8 a9 a10 r
    split at h
    · rename_i q
      simp only [Bool.and_eq_true, decide_eq_true_eq, inRange] at q
      obtain ⟨q, q13⟩ := q
      obtain ⟨q, q12⟩ := q
      obtain ⟨q, q11⟩ := q
      obtain ⟨q, q10⟩ := q
      obtain ⟨q, q9⟩ := q
      obtain ⟨q, q8⟩ := q
      obtain ⟨q, q7⟩ := q
      obtain ⟨q, q6⟩ := q
      obtain ⟨q, q5⟩ := q
      obtain ⟨q, q4⟩ := q
      obtain ⟨q, q3⟩ := q
      obtain ⟨q1, q2⟩ := q
      refine ⟨q1, ?_⟩
      unfold parOk
      rw [Bool.and_eq_true, Bool.and_eq_true]
      refine ⟨⟨?_, ?_⟩, ?_⟩
      · unfold within
        simp only [List.length_map, List.length_cons, Bool.and_eq_true, decide_eq_true_eq]
        omega
      · simp only [asInts, List.map_cons, limL, List.zip_cons_cons, List.all_cons, within, Bool.and_eq_true, decide_eq_true_eq, List.zip_nil_right, List.all_nil, and_true]
        refine ⟨?_, ?_, ?_, ?_, ?_, ?_, ?_, ?_, ?_, ?_⟩ <;> omega
      · rw [List.all_eq_true]
        intro z hz
        have hz2 : z ∈ asInts r := hz
        obtain ⟨x, hx, rfl⟩ := List.mem_map.mp hz2
        have := List.all_eq_true.mp q13 x hx
        unfold within
        simp only [Bool.and_eq_true, decide_eq_true_eq] at this ⊢
        omega
    · cases h
  · cases h
end Hm
namespace Hm
open Kp423
theorem asked_open {ns : List Int} (h : PyKp423.answers_asked ns = true) : ∃ cs, PyWide.calls ns.length ns = some cs ∧ cs.all Kp423Neutral.asked1 = true ∧ PyKp423.answers ns = tellL none cs ∧ (PyKp423.answers ns).length ≤ 10000000 := by
  unfold PyKp423.answers_asked at h
  split at h
  · cases h
  · rename_i cs hc
    rw [Bool.and_eq_true, Bool.and_eq_true] at h
    obtain ⟨⟨h1, h2⟩, h3⟩ := h
    unfold Kp423Neutral.asked at h2
    rw [Bool.and_eq_true, Bool.and_eq_true] at h2
    refine ⟨cs, hc, h2.2.2, ?_, of_decide_eq_true h3⟩
    unfold PyKp423.answers
    rw [hc]
    rfl
theorem tell_nil (st : State) : tellL st [] = [] := by
  unfold tellL PyFlat.told
  have : PyFlat.played Kp423Neutral.step st [] = [] := rfl
  rw [this]
  rfl
end Hm
namespace Hc
open PySem PySem.Spec PyProof.Rows L2 Evl
/-! ### more of what evaluates to what -/
section
variable {K : PySem.W.Frag} {σ : L2.St} {H H' : Hp} {ta te tb : TE} {t : TA} {v z : V} {a C dx : Addr} {fs : List (Str × V)} {f m : Str} {vs : List V} {sp : Sp} {E : XK} {D : Ends} {tz : TS}
theorem ev_fld (h : Ev ta σ H (.ref a)) (ha : H a = some (.ins C dx fs)) (c : Cls K C) (n : NoAttr K C f) (l : fs.lookup f = some v) : Ev (tFld K ta f) σ H v := fun H1 e Q q =>
  h H1 e _ fun H2 e2 => ⟨a, C, dx, fs, v, rfl, e2 _ _ (e _ _ ha), c, n, l, q H2 e2⟩
theorem ev_meth (h : Ev ta σ H (.ref a)) (ha : H a = some (.ins C dx fs)) (l : fs.lookup m = none) (hv : EvA t σ H vs) (hs : SpV sp (.ref a :: (vs ++ [])) H z) : Ev (tMeth C m sp [] E ta t) σ H z := fun H1 e Q q =>
  h H1 e _ fun H2 e2 => ⟨a, dx, fs, rfl, e2 _ _ (e _ _ ha), l, hv H2 (e.trans e2) _ fun H3 e3 => hs H3 ((e.trans e2).trans e3) Q (fun H4 e4 => q H4 ((e2.trans e3).trans e4)) E⟩
theorem el_meth {xs : List V} (h : Ev ta σ H (.ref a)) (ha : H a = some (.ins C dx fs)) (l : fs.lookup m = none) (hv : EvA t σ H vs) (hs : SpL sp (.ref a :: (vs ++ [])) H xs) : EvL (tMeth C m sp [] E ta t) σ H xs := fun H1 e Q q =>
  h H1 e _ fun H2 e2 => ⟨a, dx, fs, rfl, e2 _ _ (e _ _ ha), l, hv H2 (e.trans e2) _ fun H3 e3 => hs H3 ((e.trans e2).trans e3) Q (fun p H4 hp e4 h4 => q p H4 (fresh_back (e2.trans e3) hp) ((e2.trans e3).trans e4) h4) E⟩
/-- a call that changes things: the promise at the heap behind its arguments -/
theorem x_meth {Q : VK} (h : Ev ta σ H (.ref a)) (ha : H a = some (.ins C dx fs)) (l : fs.lookup m = none) (hv : EvA t σ H vs) (k : ∀ H1, Ex H H1 → sp (.ref a :: (vs ++ [])) H1 Q E) : tMeth C m sp [] E ta t σ H Q :=
  h H (Ex.refl H) _ fun H2 e2 => ⟨a, dx, fs, rfl, e2 _ _ ha, l, hv H2 e2 _ fun H3 e3 => k H3 (e2.trans e3)⟩
theorem x_call {Q : VK} (hv : EvA t σ H vs) (k : ∀ H1, Ex H H1 → sp (vs ++ []) H1 Q E) : tCall sp [] E t σ H Q := hv H (Ex.refl H) _ fun H2 e2 => k H2 e2
theorem x_make {Q : VK} (hv : EvA t σ H vs) (k : ∀ H1 x dx, Ex H H1 → H1 x = none → H1 dx = none → dx ≠ x → sp (.ref x :: (vs ++ [])) (upd (upd H1 dx (.own x)) x (.ins C dx [])) (fun v H2 => v = .non ∧ Q (.ref x) H2) E) : tMake C sp [] E t σ H Q :=
  hv H (Ex.refl H) _ fun H2 e2 x dx h1 h2 h3 => k H2 x dx e2 h1 h2 h3
theorem x_v {Q : VK} (h : Ev te σ H v) (k : ∀ H1, Ex H H1 → Q v H1) : te σ H Q := h H (Ex.refl H) Q k
theorem x_l {xs : List V} {Q : VK} (h : EvL te σ H xs) (k : ∀ p H1, H p = none → Ex H H1 → H1 p = some (.lst xs) → Q (.ref p) H1) : te σ H Q := h H (Ex.refl H) Q k
theorem x_u {xs : List V} {Q : VK} (h : EvU te σ H xs) (k : ∀ p H1, H p = none → Ex H H1 → H1 p = some (.tup xs) → Q (.ref p) H1) : te σ H Q := h H (Ex.refl H) Q k
theorem x_t {tt : TT} {b : Bool} {Q : Bool → Hp → Prop} (h : EvT tt σ H b) (k : ∀ H1, Ex H H1 → Q b H1) : tt σ H Q := h H (Ex.refl H) Q k
theorem x_a {Q : List V → Hp → Prop} (h : EvA t σ H vs) (k : ∀ H1, Ex H H1 → Q vs H1) : t σ H Q := h H (Ex.refl H) Q k
theorem x_bmL {r : V → List V → Hp → VK → Prop} {l : Addr} {xs : List V} {Q : VK} (ha : Ev ta σ H (.ref l)) (hl : H l = some (.lst xs)) (k : ∀ H1, Ex H H1 → te σ H1 fun x H2 => r (.ref l) [x] H2 Q) : tBM K "list" r ta (tCons te tNil) σ H Q :=
  ha H (Ex.refl H) _ fun H1 e1 => ⟨Or.inl ⟨rfl, _, sq_of (e1 _ _ hl)⟩, k H1 e1⟩
theorem s_dropX (h : te σ H fun _ H1 => D.nx σ H1) : tDrop te D σ H := h
theorem s_asgX {i : Nat} (h : te σ H fun v H1 => D.nx (σ.set i (some v)) H1) : tAsg te (gName i) D σ H := h
theorem q_dropX {tz : TS} (h : te σ H fun _ H1 => tz D σ H1) : tSeq (tDrop te) tz D σ H := h
theorem q_asgX {tz : TS} {i : Nat} (h : te σ H fun v H1 => tz D (σ.set i (some v)) H1) : tSeq (tAsg te (gName i)) tz D σ H := h
theorem s_retX (h : te σ H D.rt) : tRet te D σ H := h
theorem s_seq {t1 t2 : TS} (h : t1 { D with nx := t2 D } σ H) : tSeq t1 t2 D σ H := h
theorem s_fld (hv : Ev tb σ H v) (h : Ev ta σ H (.ref a)) (ha : H a = some (.ins C dx fs)) (c : Cls K C) (n : NoAttr K C f) (hl : fs.length < 1000) (k : ∀ H1, Ex H H1 → D.nx σ (upd H1 a (.ins C dx (putF f v fs)))) : sFld K ta tb f D σ H :=
  hv H (Ex.refl H) _ fun H1 e1 => h H1 e1 _ fun H2 e2 => ⟨a, C, dx, fs, rfl, e2 _ _ (e1 _ _ ha), c, n, hl, k H2 (e1.trans e2)⟩
theorem s_retN (h : D.rt .non H) : tRetN D σ H := h
theorem q_fld (hv : Ev tb σ H v) (h : Ev ta σ H (.ref a)) (ha : H a = some (.ins C dx fs)) (c : Cls K C) (n : NoAttr K C f) (hl : fs.length < 1000) (k : ∀ H1, Ex H H1 → tz D σ (upd H1 a (.ins C dx (putF f v fs)))) : tSeq (sFld K ta tb f) tz D σ H :=
  s_fld (D := { D with nx := tz D }) hv h ha c n hl k
theorem et_tB {b : Bool} (h : Ev te σ H (.bl b)) : EvT (tTest te) σ H b := et_test h
theorem ev_isN (h : Ev ta σ H v) : Ev (tOp (fun x y H Q => y = .non ∧ Q (.bl (decide (x = .non))) H) ta (tC .non)) σ H (.bl (decide (v = .non))) := fun H1 e Q q => h H1 e _ fun H2 e2 => ⟨rfl, q H2 e2⟩
theorem ev_notN (h : Ev ta σ H v) : Ev (tOp (fun x y H Q => y = .non ∧ Q (.bl (!decide (x = .non))) H) ta (tC .non)) σ H (.bl (!decide (v = .non))) := fun H1 e Q q => h H1 e _ fun H2 e2 => ⟨rfl, q H2 e2⟩
/-- behind a new instance and its __init__ all that stood stands -/
theorem Ex.made {H H1 : Hp} {x dx C : Addr} (nx : H x = Option.none) (nd : H dx = Option.none) (k : ∀ b o, (upd (upd H dx (.own x)) x (.ins C dx [])) b = some o → b ≠ x → H1 b = some o) : Ex H H1 := fun b o e =>
  k b o (by rw [upd_ne (ne_of_none e nx), upd_ne (ne_of_none e nd)]; exact e) (ne_of_none e nx)
end
/-- xs + ys of two lists made on the way -/
theorem el_cat {K : PySem.W.Frag} {σ : L2.St} {H : Hp} {ta tb : TE} {xs ys : List V} (ha : EvL ta σ H xs) (hb : ∀ H1, Ex H H1 → EvL tb σ H1 ys) (hz : xs.length + ys.length ≤ 100000) : EvL (tOp rCat ta tb) σ H (xs ++ ys) := fun H1 e Q q =>
  ha H1 e _ fun p H2 hp e2 h2 => hb H2 (e.trans e2) H2 (Ex.refl H2) _ fun p' H3 hp' e3 h3 => ⟨p, p', xs, ys, rfl, rfl, e3 _ _ h2, h3, sz_of hz, fun r hr => q r _ (fresh_back (e2.trans e3) hr) ((e2.trans e3).trans (Ex.new hr)) upd_same⟩
/-- .. the first one stands -/
theorem el_catV {K : PySem.W.Frag} {σ : L2.St} {H : Hp} {a : Addr} {ta tb : TE} {xs ys : List V} (ha : Ev ta σ H (.ref a)) (hs : H a = some (.lst xs)) (hb : ∀ H1, Ex H H1 → EvL tb σ H1 ys) (hz : xs.length + ys.length ≤ 100000) : EvL (tOp rCat ta tb) σ H (xs ++ ys) := fun H1 e Q q =>
  ha H1 e _ fun H2 e2 => hb H2 (e.trans e2) H2 (Ex.refl H2) _ fun p' H3 hp' e3 h3 => ⟨a, p', xs, ys, rfl, rfl, e3 _ _ (e2 _ _ (e _ _ hs)), h3, sz_of hz, fun r hr => q r _ (fresh_back (e2.trans e3) hr) ((e2.trans e3).trans (Ex.new hr)) upd_same⟩
/-- .. the second one stands -/
theorem el_catW {K : PySem.W.Frag} {σ : L2.St} {H : Hp} {a : Addr} {ta tb : TE} {xs ys : List V} (ha : EvL ta σ H xs) (hb : Ev tb σ H (.ref a)) (hs : H a = some (.lst ys)) (hz : xs.length + ys.length ≤ 100000) : EvL (tOp rCat ta tb) σ H (xs ++ ys) := fun H1 e Q q =>
  ha H1 e _ fun p H2 hp e2 h2 => hb H2 (e.trans e2) _ fun H3 e3 => ⟨p, a, xs, ys, rfl, rfl, e3 _ _ h2, ((e.trans e2).trans e3) _ _ hs, sz_of hz, fun r hr => q r _ (fresh_back (e2.trans e3) hr) ((e2.trans e3).trans (Ex.new hr)) upd_same⟩
theorem el_catVV {K : PySem.W.Frag} {σ : L2.St} {H : Hp} {a b : Addr} {ta tb : TE} {xs ys : List V} (ha : Ev ta σ H (.ref a)) (hs : H a = some (.lst xs)) (hb : Ev tb σ H (.ref b)) (hs2 : H b = some (.lst ys)) (hz : xs.length + ys.length ≤ 100000) : EvL (tOp rCat ta tb) σ H (xs ++ ys) := fun H1 e Q q =>
  ha H1 e _ fun H2 e2 => hb H2 (e.trans e2) _ fun H3 e3 => ⟨a, b, xs, ys, rfl, rfl, ((e.trans e2).trans e3) _ _ hs, ((e.trans e2).trans e3) _ _ hs2, sz_of hz, fun r hr => q r _ (fresh_back (e2.trans e3) hr) ((e2.trans e3).trans (Ex.new hr)) upd_same⟩
/-- the promises' two shapes, as callers take them -/
theorem spV_of {sp : Sp} {vs : List V} {H : Hp} {z : V} (h : ∀ H1, Ex H H1 → ∀ Q E, RetV z H1 Q → sp vs H1 Q E) : SpV sp vs H z := fun H1 e Q q E => h H1 e Q E q
theorem spL_of {sp : Sp} {vs xs : List V} {H : Hp} (h : ∀ H1, Ex H H1 → ∀ Q E, RetL xs H1 Q → sp vs H1 Q E) : SpL sp vs H xs := fun H1 e Q q E => h H1 e Q E q
theorem RetV.of {v : V} {H : Hp} {Q : VK} (k : RetV v H Q) : ∀ H2, Ex H H2 → Q v H2 := k
theorem xor_nat (a b : Nat) : Builtin.bitXor (a : Int) (b : Int) = ((a ^^^ b : Nat) : Int) := (Bits.bitXor_pp (Int.natCast_nonneg a) (Int.natCast_nonneg b)).trans (by simp)
/-! ### attributes by name -/
theorem lk_here {k : Str} {v : V} {r : List (Str × V)} : List.lookup k ((k, v) :: r) = some v := by
  have e : (k == k) = true := beq_self_eq_true k
  simp only [List.lookup, e]
theorem lk_past {k g : Str} {v : V} {r : List (Str × V)} (h : (k == g) = false) : List.lookup k ((g, v) :: r) = List.lookup k r := by
  simp only [List.lookup, h]
theorem put_here {f : Str} {v x : V} {r : List (Str × V)} : putF f v ((f, x) :: r) = (f, v) :: r := if_pos rfl
theorem put_past {f g : Str} {v x : V} {r : List (Str × V)} (h : ¬ g = f) : putF f v ((g, x) :: r) = (g, x) :: putF f v r := if_neg h
theorem put_nil {f : Str} {v : V} : putF f v [] = [(f, v)] := rfl
/-! ### rules that the layer lacks -/
section
variable {X : Cx}
/-- a constant of the module, whatever its token -/
theorem pe_gi {x : Str} {i : Int} {pos : Pos} (hm : ∃ t, X.mg x = some (.int i t)) (hg : Gl X x := by rfl) (hd : (x == ("__debug__" : Str)) = false := by decide) : PE X (.Name x pos) (tC (.int i)) := by
  obtain ⟨t, hm⟩ := hm
  exact pe_glob hg hm ⟨t, rfl⟩ hd
theorem pe_gr {x : Str} {a : Addr} {pos : Pos} (hm : X.mg x = some (.ref a)) (hg : Gl X x := by rfl) (hd : (x == ("__debug__" : Str)) = false := by decide) : PE X (.Name x pos) (tC (.ref a)) := pe_glob hg hm rfl hd
/-- xs == [], xs != [] -/
def rEmp (K : PySem.W.Frag) (neg : Bool) : R2 := fun x y H Q => ∃ p q xs, x = .ref p ∧ y = .ref q ∧ SqL K H p xs ∧ SqL K H q [] ∧ Q (.bl (if neg then !xs.isEmpty else xs.isEmpty)) H
theorem op_eqE (hu : X.A.units < cLine) : OpR X (compareOp .Eq) (rEmp X.K false) := by
  intro pins s σ H x y v u Q I rx ry h
  obtain ⟨p, q, xs, rfl, rfl, hp, hq, k⟩ := h
  cases rx
  cases ry
  obtain ⟨us, r1, p1, _⟩ := I.list hp
  obtain ⟨ws, r2, p2, _⟩ := I.list hq
  cases r2
  cases xs with
  | nil =>
    cases r1
    refine SeqAt.eq_listAt (e := fun _ => true) p1.isList p2.isList rfl hu (fun j h1 _ => absurd h1 (Nat.not_lt_zero j)) ⟨.bl true, H, I, rfl, k⟩
  | cons a r =>
    have hsz : (us.toArray.size != ([] : List Value).toArray.size) = true := by
      have := r1.length
      rw [List.size_toArray, ← this]
      rfl
    exact SeqAt.eq_list_lengthsAt p1.isList p2.isList hsz hu ⟨.bl false, H, I, rfl, k⟩
theorem op_neE (hu : X.A.units < cLine) : OpR X (compareOp .NotEq) (rEmp X.K true) := by
  intro pins s σ H x y v u Q I rx ry h
  obtain ⟨p, q, xs, rfl, rfl, hp, hq, k⟩ := h
  cases rx
  cases ry
  obtain ⟨us, r1, p1, _⟩ := I.list hp
  obtain ⟨ws, r2, p2, _⟩ := I.list hq
  cases r2
  cases xs with
  | nil =>
    cases r1
    exact SeqAt.RcNeAt.lists (e := fun _ => true) p1.isList p2.isList rfl hu (fun j h1 _ => absurd h1 (Nat.not_lt_zero j)) _ _ _ _ ⟨.bl false, H, I, rfl, k⟩
  | cons a r =>
    have hsz : (us.toArray.size != ([] : List Value).toArray.size) = true := by
      have := r1.length
      rw [List.size_toArray, ← this]
      rfl
    exact SeqAt.RcNeAt.lists_lengths p1.isList p2.isList hsz hu _ _ _ _ ⟨.bl true, H, I, rfl, k⟩
/-- sorted(xs), xs a list of triples of ints -/
abbrev I3 : Type := Int × Int × Int
def i3l (b : I3) : List Int := [b.1, b.2.1, b.2.2]
def le3 (p q : I3) : Bool := !decide (i3l q < i3l p)
def Tup3 (H : Hp) (x : V) (b : I3) : Prop := ∃ t, x = .ref t ∧ H t = some (.tup [.int b.1, .int b.2.1, .int b.2.2])
def rSorted3 (K : PySem.W.Frag) : List V → Hp → VK → Prop := fun vs H Q => ∃ (a : Addr) (xs : List V) (bs : List I3), vs = [V.ref a] ∧ SqL K H a xs ∧ Paired (Tup3 H) xs bs ∧
  ∀ ys p, H p = none → Paired (Tup3 H) ys (bs.mergeSort le3) → Q (.ref p) (upd H p (.lst ys))
def enc3 (b : I3) : PyData := .tuple ((i3l b).map .int)
theorem le3_eq : PySem.W.dataLe false enc3 = le3 := by
  funext p q
  show (!PySem.W.dataLt (.tuple ((i3l q).map .int)) (.tuple ((i3l p).map .int))) = _
  have e : PySem.W.dataLt (.tuple ((i3l q).map .int)) (.tuple ((i3l p).map .int)) = PySem.W.rowLt ((i3l q).map .int) ((i3l p).map .int) := by
    first
      | rfl
      | exact PySem.W.dataLt_tuple _ _
  rw [e, PySem.W.dataLt_ints]
  rfl
theorem each_paired {α β : Type} {R : α → β → Prop} : ∀ {l : List α} {m : List β}, Paired R l m → PySem.W.EachIs R l m
  | _, _, .nil => PySem.W.EachIs.nil
  | _, _, .cons h t => PySem.W.EachIs.cons h (each_paired t)
theorem paired_each {α β : Type} {R : α → β → Prop} : ∀ {l : List α} {m : List β}, PySem.W.EachIs R l m → Paired R l m
  | _, _, .nil => .nil
  | _, _, .cons h t => .cons h (paired_each t)
theorem paired_back {H : Hp} : ∀ {xs : List V} {us : List Value} {bs : List I3}, Vals xs us → Paired (Tup3 H) xs bs → Paired (fun (u : Value) b => ∃ t, u = Value.ref t ∧ H t = some (.tup [.int b.1, .int b.2.1, .int b.2.2])) us bs
  | _, _, _, .nil, .nil => .nil
  | _, _, _, .cons r rs, .cons h t => .cons (by
      obtain ⟨t, rfl, ht⟩ := h
      exact ⟨t, r, ht⟩) (paired_back rs t)
theorem paired_forth {H : Hp} : ∀ {us : List Value} {bs : List I3}, Paired (fun (u : Value) (b : I3) => ∃ t, u = Value.ref t ∧ H t = some (.tup [.int b.1, .int b.2.1, .int b.2.2])) us bs → ∃ xs, Vals xs us ∧ Paired (Tup3 H) xs bs
  | _, _, .nil => ⟨[], .nil, .nil⟩
  | _, _, .cons h t => by
    obtain ⟨xs, r, p⟩ := paired_forth t
    obtain ⟨a, rfl, ha⟩ := h
    exact ⟨.ref a :: xs, .cons rfl r, .cons ⟨a, rfl, ha⟩ p⟩
theorem cr_sorted3 (hu : X.A.units + 64 < cLine) : CallR X (.builtin "sorted") (rSorted3 X.K) := by
  intro pins s σ H vs us Q I r h
  obtain ⟨a, xs, bs, rfl, hs, hx, q⟩ := h
  obtain ⟨its, rv, hl, hz⟩ := I.list hs
  obtain ⟨u, rfl, ru⟩ := vals1 r
  obtain rfl : u = Value.ref a := ru
  have hb := paired_back rv hx
  have e1 := each_paired hb
  have lb : bs.length = its.length := (Paired.length hb).symm
  refine PySem.W.sorted_data (enc := enc3) (bs := bs) hl.isList e1 (e1.mono fun v b hv => ?_) (PySem.W.AllAlike.of fun b b' => PySem.W.alike_ints _ _) (PySem.W.Sortable.tuples fun b => ⟨_, _, rfl⟩) (by rw [lb, ← rv.length]; exact hz) (fun b _ => ?_) fun out ho hp => ?_
  · obtain ⟨t, rfl, ht⟩ := hv
    obtain ⟨_, its2, r2, o, hg, hc, n, hd⟩ := I.hok _ _ ht
    cases r2 with
    | cons z1 r3 => cases r3 with
      | cons z2 r4 => cases r4 with
        | cons z3 r5 =>
          cases r5
          obtain ⟨t1, rfl⟩ := z1
          obtain ⟨t2, rfl⟩ := z2
          obtain ⟨t3, rfl⟩ := z3
          exact ⟨_, .tuple hg hc hd (.cons (.int _ _) (.cons (.int _ _) (.cons (.int _ _) .nil)))⟩
  · have : (enc3 b).depth ≤ 1 := by
      show PyData.depthAll ((i3l b).map .int) + 1 ≤ 1
      rw [PySem.W.depth_ints]
      exact Nat.le_refl 1
    omega
  · rw [le3_eq] at hp
    obtain ⟨ys, r5, p5⟩ := paired_forth (paired_each hp)
    obtain ⟨c, hc⟩ := sortedAll_at s.heap its out.toArray
    refine ⟨.ref (s.heap.objs.size + 1), upd H (s.heap.objs.size + 1) (.lst ys), I.laid (t' := s.toks) (fun _ _ => sortedAll_old) (Nat.le_succ _) ⟨?_, out, _, r5, hc⟩, rfl, q ys _ (I.hok.fresh (Nat.le_succ _)) p5⟩
    rw [r5.length, ho, lb, ← rv.length]
    exact hz
end
/-! ### comprehensions over a list that is told by a function -/
section
variable {K : PySem.W.Frag} {σ : L2.St} {H : Hp} {te : TE} {tt : TT} {tl : TE}
theorem given_is {α : Type} (p : α → Bool) (f : α → V) (l : List α) : ∀ n, n ≤ l.length → given n (fun i => match l[i]? with | some x => p x | none => false) (fun i => match l[i]? with | some x => f x | none => .non) = ((l.take n).filter p).map f
  | 0, _ => by simp [given]
  | n + 1, h => by
    have hn : l[n]? = some l[n] := List.getElem?_eq_getElem (by omega)
    have ih := given_is p f l n (by omega)
    have et : l.take (n + 1) = l.take n ++ [l[n]] := by
      rw [List.take_add_one, hn]
      rfl
    rw [et, List.filter_append, List.map_append, ← ih]
    cases c : p l[n] with
    | true =>
      rw [given_yes (by rw [hn]; exact c), List.filter_cons, if_pos c, hn] <;> rfl
    | false =>
      rw [given_no (by rw [hn]; exact c), List.filter_cons, if_neg (by rw [c]; decide)]
      simp
theorem el_lcM {α : Type} (l : List α) (g : α → V) (p : α → Bool) (f : α → V) {a : Addr} {j : Nat} {vs : List Nat} (h : Ev tl σ H (.ref a)) (hx : SqL K H a (l.map g)) (hz : l.length ≤ 40000) (hw : ∀ x, wipe ((wipe σ vs).set j (some x)) vs = wipe σ vs)
    (ht : ∀ x ∈ l, ∀ H1, Ex H H1 → EvT tt ((wipe σ vs).set j (some (g x))) H1 (p x)) (he : ∀ x ∈ l, ∀ H1, Ex H H1 → p x = true → Ev te ((wipe σ vs).set j (some (g x))) H1 (f x)) : EvL (tLc (iList K tl) (gName j) tt te vs) σ H ((l.filter p).map f) := by
  have k := el_lcL (K := K) (t := tt) (te := te) (xs := l.map g) (fun i => match l[i]? with | some x => p x | none => false) (fun i => match l[i]? with | some x => f x | none => .non) h hx (by rw [List.length_map]; exact hz) hw
    (fun i x H1 e hi => by
      rw [List.getElem?_map] at hi
      cases c : l[i]? with
      | none => rw [c] at hi; cases hi
      | some y =>
        rw [c] at hi
        cases hi
        exact ht y (List.mem_of_getElem? c) H1 e)
    (fun i x H1 e hi hp => by
      rw [List.getElem?_map] at hi
      cases c : l[i]? with
      | none => rw [c] at hi; cases hi
      | some y =>
        rw [c] at hi hp
        cases hi
        exact he y (List.mem_of_getElem? c) H1 e hp)
  rw [List.length_map, given_is p f l l.length (Nat.le_refl _), List.take_length] at k
  exact k
theorem el_lcMN {α : Type} (l : List α) (g : α → V) (p : α → Bool) (f : α → V) {j : Nat} {vs : List Nat} (h : EvL tl σ H (l.map g)) (hz : l.length ≤ 40000) (hw : ∀ x, wipe ((wipe σ vs).set j (some x)) vs = wipe σ vs)
    (ht : ∀ x ∈ l, ∀ H1, Ex H H1 → EvT tt ((wipe σ vs).set j (some (g x))) H1 (p x)) (he : ∀ x ∈ l, ∀ H1, Ex H H1 → p x = true → Ev te ((wipe σ vs).set j (some (g x))) H1 (f x)) : EvL (tLc (iList K tl) (gName j) tt te vs) σ H ((l.filter p).map f) := by
  have k := el_lcNL (K := K) (t := tt) (te := te) (xs := l.map g) (fun i => match l[i]? with | some x => p x | none => false) (fun i => match l[i]? with | some x => f x | none => .non) h (by rw [List.length_map]; exact hz) hw
    (fun i x H1 e hi => by
      rw [List.getElem?_map] at hi
      cases c : l[i]? with
      | none => rw [c] at hi; cases hi
      | some y =>
        rw [c] at hi
        cases hi
        exact ht y (List.mem_of_getElem? c) H1 e)
    (fun i x H1 e hi hp => by
      rw [List.getElem?_map] at hi
      cases c : l[i]? with
      | none => rw [c] at hi; cases hi
      | some y =>
        rw [c] at hi hp
        cases hi
        exact he y (List.mem_of_getElem? c) H1 e hp)
  rw [List.length_map, given_is p f l l.length (Nat.le_refl _), List.take_length] at k
  exact k
theorem et_yes : EvT tYes σ H true := fun H1 _ _ q => q H1 (Ex.refl H1)
/-- .. without a test -/
theorem el_lcA {α : Type} (l : List α) (g : α → V) (f : α → V) {a : Addr} {j : Nat} {vs : List Nat} (h : Ev tl σ H (.ref a)) (hx : SqL K H a (l.map g)) (hz : l.length ≤ 40000) (hw : ∀ x, wipe ((wipe σ vs).set j (some x)) vs = wipe σ vs)
    (he : ∀ x ∈ l, ∀ H1, Ex H H1 → Ev te ((wipe σ vs).set j (some (g x))) H1 (f x)) : EvL (tLc (iList K tl) (gName j) tYes te vs) σ H (l.map f) := by
  have k := el_lcM (K := K) (te := te) l g (fun _ => true) f h hx hz hw (fun _ _ _ _ => et_yes) fun x hx H1 e _ => he x hx H1 e
  rw [List.filter_eq_self.mpr fun _ _ => rfl] at k
  exact k
theorem el_lcAN {α : Type} (l : List α) (g : α → V) (f : α → V) {j : Nat} {vs : List Nat} (h : EvL tl σ H (l.map g)) (hz : l.length ≤ 40000) (hw : ∀ x, wipe ((wipe σ vs).set j (some x)) vs = wipe σ vs)
    (he : ∀ x ∈ l, ∀ H1, Ex H H1 → Ev te ((wipe σ vs).set j (some (g x))) H1 (f x)) : EvL (tLc (iList K tl) (gName j) tYes te vs) σ H (l.map f) := by
  have k := el_lcMN (K := K) (te := te) l g (fun _ => true) f h hz hw (fun _ _ _ _ => et_yes) fun x hx H1 e _ => he x hx H1 e
  rw [List.filter_eq_self.mpr fun _ _ => rfl] at k
  exact k
/-! ### built-ins -/
theorem ev_max {ns : List Int} {a : Addr} {m : Int} (h : Ev tl σ H (.ref a)) (hs : SqL K H a (ns.map V.int)) (hm : m ∈ ns) (hx : ∀ y ∈ ns, y ≤ m) : Ev (tCB (rMax K) (tCons tl tNil)) σ H (.int m) := fun H1 e Q q =>
  h H1 e _ fun H2 e2 => ⟨a, ns, rfl, ex_l (e.trans e2) hs, List.length_pos_of_mem hm, fun m' h1 h2 => by
    have e3 : m' = m := Int.le_antisymm (hx m' h1) (h2 m hm)
    rw [e3]
    exact q H2 e2⟩
theorem ev_sumN {ns : List Int} (h : EvL tl σ H (ns.map V.int)) : Ev (tCB (rSum K) (tCons tl tNil)) σ H (.int ns.sum) := fun H1 e Q q =>
  h H1 e _ fun p H2 _ e2 h2 => ⟨p, ns, rfl, sq_of h2, q H2 e2⟩
theorem ev_anyN {bs : List Bool} (h : EvL tl σ H (bs.map V.bl)) : Ev (tCB (rAny K) (tCons tl tNil)) σ H (.bl (bs.any id)) := fun H1 e Q q =>
  h H1 e _ fun p H2 _ e2 h2 => ⟨p, bs, rfl, sq_of h2, q H2 e2⟩
theorem ev_allN {bs : List Bool} (h : EvL tl σ H (bs.map V.bl)) : Ev (tCB (rAll K) (tCons tl tNil)) σ H (.bl (bs.all id)) := fun H1 e Q q =>
  h H1 e _ fun p H2 _ e2 h2 => ⟨p, bs, rfl, sq_of h2, q H2 e2⟩
/-- the first place of y among ints -/
theorem ev_index {ns : List Int} {a : Addr} {j : Nat} {y : Int} (h : Ev tl σ H (.ref a)) (hs : SqL K H a (ns.map V.int)) (hy : Ev te σ H (.int y)) (hj : ns[j]? = some y) (hf : ∀ i, i < j → ∀ z, ns[i]? = some z → z ≠ y) : Ev (tBM K "list" (rIndex K) tl (tCons te tNil)) σ H (.int (j : Int)) := fun H1 e Q q =>
  h H1 e _ fun H2 e2 => ⟨Or.inl ⟨rfl, _, ex_l (e.trans e2) hs⟩, hy H2 (e.trans e2) _ fun H3 e3 => ⟨a, ns.map V.int, .int y, j, .int y, rfl, rfl, ex_l ((e.trans e2).trans e3) hs, rfl, by simp [flatV], by rw [List.getElem?_map, hj]; rfl, beq_self_eq_true y, fun m z' hm hz => by
    rw [List.getElem?_map] at hz
    cases c : ns[m]? with
    | none => rw [c] at hz; cases hz
    | some z =>
      rw [c] at hz
      cases hz
      exact beq_eq_false_iff_ne.mpr (hf m hm z c), q H3 (e2.trans e3)⟩⟩
/-- xs == [], xs != [] -/
theorem ev_emp {neg : Bool} {xs : List V} (ha : EvL tl σ H xs) (hb : ∀ H1, Ex H H1 → EvL te σ H1 []) : Ev (tOp (rEmp K neg) tl te) σ H (.bl (if neg then !xs.isEmpty else xs.isEmpty)) := fun H1 e Q q =>
  ha H1 e _ fun p H2 _ e2 h2 => hb H2 (e.trans e2) H2 (Ex.refl H2) _ fun p' H3 _ e3 h3 => ⟨p, p', xs, rfl, rfl, sq_of (e3 _ _ h2), sq_of h3, q H3 (e2.trans e3)⟩
theorem ev_empV {neg : Bool} {xs : List V} {a : Addr} (ha : Ev tl σ H (.ref a)) (hs : SqL K H a xs) (hb : ∀ H1, Ex H H1 → EvL te σ H1 []) : Ev (tOp (rEmp K neg) tl te) σ H (.bl (if neg then !xs.isEmpty else xs.isEmpty)) := fun H1 e Q q =>
  ha H1 e _ fun H2 e2 => hb H2 (e.trans e2) H2 (Ex.refl H2) _ fun p' H3 _ e3 h3 => ⟨a, p', xs, rfl, rfl, ex_l ((e.trans e2).trans e3) hs, sq_of h3, q H3 (e2.trans e3)⟩
theorem el_nil : EvL (tLst tNil) σ H [] := el_lst ea_nil (by show 0 ≤ 100000; decide)
theorem ev_lenL {a : Addr} {xs : List V} (h : Ev tl σ H (.ref a)) (hs : SqL K H a xs) : Ev (tCB (fun xs H Q => ∃ p ys, xs = [V.ref p] ∧ (SqL K H p ys ∨ SqT K H p ys) ∧ Q (.int (ys.length : Nat)) H) (tCons tl tNil)) σ H (.int (xs.length : Int)) := fun H1 e Q q =>
  h H1 e _ fun H2 e2 => ⟨a, xs, rfl, Or.inl (ex_l (e.trans e2) hs), q H2 e2⟩
theorem ev_lenLN {xs : List V} (h : EvL tl σ H xs) : Ev (tCB (fun xs H Q => ∃ p ys, xs = [V.ref p] ∧ (SqL K H p ys ∨ SqT K H p ys) ∧ Q (.int (ys.length : Nat)) H) (tCons tl tNil)) σ H (.int (xs.length : Int)) := fun H1 e Q q =>
  h H1 e _ fun p H2 _ e2 h2 => ⟨p, xs, rfl, Or.inl (sq_of h2), q H2 e2⟩
theorem ev_lenT {a : Addr} {xs : List V} (h : Ev tl σ H (.ref a)) (hs : SqT K H a xs) : Ev (tCB (fun xs H Q => ∃ p ys, xs = [V.ref p] ∧ (SqL K H p ys ∨ SqT K H p ys) ∧ Q (.int (ys.length : Nat)) H) (tCons tl tNil)) σ H (.int (xs.length : Int)) := fun H1 e Q q =>
  h H1 e _ fun H2 e2 => ⟨a, xs, rfl, Or.inr (ex_t (e.trans e2) hs), q H2 e2⟩
end
section
variable {K : PySem.W.Frag} {σ : L2.St} {H : Hp} {te tl ta : TE} {D : Ends} {tz : TS}
theorem el_listN {xs : List V} (h : EvL tl σ H xs) : EvL (tCB (fun xs H Q => ∃ p ys, xs = [V.ref p] ∧ (SqL K H p ys ∨ SqT K H p ys) ∧ ∀ l, H l = none → Q (.ref l) (upd H l (.lst ys))) (tCons tl tNil)) σ H xs := fun H1 e Q q =>
  h H1 e _ fun p H2 _ e2 h2 => ⟨p, xs, rfl, Or.inl (sq_of h2), fun l hl => q l _ (fresh_back e2 hl) (e2.trans (Ex.new hl)) upd_same⟩
theorem el_listT {xs : List V} {a : Addr} (h : Ev tl σ H (.ref a)) (hs : SqT K H a xs) : EvL (tCB (fun xs H Q => ∃ p ys, xs = [V.ref p] ∧ (SqL K H p ys ∨ SqT K H p ys) ∧ ∀ l, H l = none → Q (.ref l) (upd H l (.lst ys))) (tCons tl tNil)) σ H xs := fun H1 e Q q =>
  h H1 e _ fun H2 e2 => ⟨a, xs, rfl, Or.inr (ex_t (e.trans e2) hs), fun l hl => q l _ (fresh_back e2 hl) (e2.trans (Ex.new hl)) upd_same⟩
theorem s_par {i j : Nat} {t : TA} {v u : V} (h : EvA t σ H [v, u]) (k : ∀ H1, Ex H H1 → D.nx ((σ.set i (some v)).set j (some u)) H1) : tPar i j t D σ H := h H (Ex.refl H) _ fun H1 e1 => ⟨v, u, rfl, k H1 e1⟩
theorem q_par {i j : Nat} {t : TA} {v u : V} (h : EvA t σ H [v, u]) (k : ∀ H1, Ex H H1 → tz D ((σ.set i (some v)).set j (some u)) H1) : tSeq (tPar i j t) tz D σ H := s_par (D := { D with nx := tz D }) h k
theorem ev_int1 {i : Int} (h : Ev ta σ H (.int i)) : Ev (tCB (fun xs H Q => (∃ i, xs = [V.int i] ∧ Q (.int i) H) ∨ ∃ k, xs = [V.bl k] ∧ Q (.int (if k then 1 else 0)) H) (tCons ta tNil)) σ H (.int i) := fun H1 e Q q => h H1 e _ fun H2 e2 => Or.inl ⟨i, rfl, q H2 e2⟩
theorem ev_intB {k : Bool} (h : Ev ta σ H (.bl k)) : Ev (tCB (fun xs H Q => (∃ i, xs = [V.int i] ∧ Q (.int i) H) ∨ ∃ k, xs = [V.bl k] ∧ Q (.int (if k then 1 else 0)) H) (tCons ta tNil)) σ H (.int (if k then 1 else 0)) := fun H1 e Q q => h H1 e _ fun H2 e2 => Or.inr ⟨k, rfl, q H2 e2⟩
theorem ev_min2 {i j : Int} (ha : Ev ta σ H (.int i)) (hb : Ev te σ H (.int j)) : Ev (tCB (fun xs H Q => ∃ i j, xs = [V.int i, V.int j] ∧ Q (.int (if j < i then j else i)) H) (tCons ta (tCons te tNil))) σ H (.int (if j < i then j else i)) := fun H1 e Q q =>
  ha H1 e _ fun H2 e2 => hb H2 (e.trans e2) _ fun H3 e3 => ⟨i, j, rfl, q H3 (e2.trans e3)⟩
theorem cut_from {xs : List V} {n : Nat} (h : n ≤ xs.length) : cutV xs (some (n : Int)) none = xs.drop n := by
  unfold cutV
  rw [HT.sIx_nat, HT.sIx_none, Nat.min_eq_left h]
  exact List.take_of_length_le (by rw [List.length_drop]; omega)
theorem cut_mid {xs : List V} {n m : Nat} (h : m ≤ xs.length) : cutV xs (some (n : Int)) (some (m : Int)) = (xs.drop n).take (m - n) := by
  unfold cutV
  rw [HT.sIx_nat, HT.sIx_nat, Nat.min_eq_left h]
  by_cases c : n ≤ xs.length
  · rw [Nat.min_eq_left c]
  · rw [Nat.min_eq_right (by omega), List.drop_eq_nil_of_le (Nat.le_refl _), List.drop_eq_nil_of_le (by omega)]
    simp
end
/-! ### an object that is being made -/
structure MkTo (H : Hp) (p C dx : Addr) (fs : List (Str × V)) (H' : Hp) : Prop where
  at_ : H' p = some (.ins C dx fs)
  old : ∀ b o, H b = some o → b ≠ p → H' b = some o
section
variable {K : PySem.W.Frag} {σ : L2.St} {H H' : Hp} {te tl ta tb : TE} {D : Ends} {tz : TS} {p C dx : Addr} {fs : List (Str × V)} {f : Str} {v : V}
theorem MkTo.seq {a : Addr} {xs : List V} (m : MkTo H p C dx fs H') (h : SqL K H a xs) (ne : a ≠ p) : SqL K H' a xs := by
  rcases h with (z | ⟨o, z⟩) | z
  · exact .inl (.inl (m.old _ _ z ne))
  · exact .inl (.inr ⟨o, m.old _ _ z ne⟩)
  · exact .inr z
theorem MkTo.start (h : H p = some (.ins C dx fs)) : MkTo H p C dx fs H := ⟨h, fun _ _ q _ => q⟩
theorem MkTo.ex {H2 : Hp} (m : MkTo H p C dx fs H') (e : Ex H' H2) : MkTo H p C dx fs H2 := ⟨e _ _ m.at_, fun b o q n => e _ _ (m.old b o q n)⟩
theorem MkTo.put {g : List (Str × V)} (m : MkTo H p C dx fs H') : MkTo H p C dx g (upd H' p (.ins C dx g)) := ⟨upd_same, fun b o q n => by rw [upd_ne n]; exact m.old b o q n⟩
theorem s_new (m : MkTo H p C dx fs H') (hv : Ev tb σ H' v) (h : Ev ta σ H' (.ref p)) (c : Cls K C) (n : NoAttr K C f) (hl : fs.length < 1000) (k : ∀ H2, MkTo H p C dx (putF f v fs) H2 → D.nx σ H2) : sFld K ta tb f D σ H' :=
  s_fld hv h m.at_ c n hl fun _ e1 => k _ (m.ex e1).put
theorem q_new (m : MkTo H p C dx fs H') (hv : Ev tb σ H' v) (h : Ev ta σ H' (.ref p)) (c : Cls K C) (n : NoAttr K C f) (hl : fs.length < 1000) (k : ∀ H2, MkTo H p C dx (putF f v fs) H2 → tz D σ H2) : tSeq (sFld K ta tb f) tz D σ H' :=
  s_new (D := { D with nx := tz D }) m hv h c n hl k
theorem s_newL {xs : List V} (m : MkTo H p C dx fs H') (hv : EvL tb σ H' xs) (h : Ev ta σ H' (.ref p)) (c : Cls K C) (n : NoAttr K C f) (hl : fs.length < 1000) (k : ∀ re H2, H' re = none → H2 re = some (.lst xs) → MkTo H p C dx (putF f (.ref re) fs) H2 → D.nx σ H2) : sFld K ta tb f D σ H' :=
  hv H' (Ex.refl H') _ fun re H1 hre e1 h1 => h H1 e1 _ fun H2 e2 => ⟨p, C, dx, fs, rfl, e2 _ _ (e1 _ _ m.at_), c, n, hl, k re _ hre (by
    have ne : re ≠ p := fun z => by rw [z, m.at_] at hre; cases hre
    rw [upd_ne ne]
    exact e2 _ _ h1) (m.ex (e1.trans e2)).put⟩
theorem q_newL {xs : List V} (m : MkTo H p C dx fs H') (hv : EvL tb σ H' xs) (h : Ev ta σ H' (.ref p)) (c : Cls K C) (n : NoAttr K C f) (hl : fs.length < 1000) (k : ∀ re H2, H' re = none → H2 re = some (.lst xs) → MkTo H p C dx (putF f (.ref re) fs) H2 → tz D σ H2) : tSeq (sFld K ta tb f) tz D σ H' :=
  s_newL (D := { D with nx := tz D }) m hv h c n hl k
end
/-! ### a def that keeps its promise, with all that a caller asks of it -/
structure Ok (P : Program) (w : World) (K : PySem.W.Frag) (mg : Str → Option Value) (base : Heap) (CX : CXT) (k : Nat) (f : Addr) (ps : List Str) (sp : Sp) : Prop where
  ex : ∃ fd : FuncData, FnOk P w K mg base CX k f fd ps sp ∧ PySem.W.keepIn K (.ref f) = true ∧ Binds K fd ps []
section
variable {X : Cx} {CX : CXT} {k : Nat} {f C : Addr} {ps : List Str} {sp : Sp} {E : XK} {x m : Str} {p pos apos : Pos} {e o : Expr} {es : List Expr} {ta : TE} {t : TA}
theorem pe_callO (O : Ok X.prog X.w X.K X.mg X.base CX k f ps sp) (hr : Room k X.A) (hg : Gl X x) (hm : X.mg x = some (.ref f)) (hx : Passes CX X E)
    (ha : PA X (e :: es) t) (hdb : (x == ("__debug__" : Str)) = false := by decide) (he : starEach (e :: es) X.env = (false, eval e X.env) :: starEach es X.env := by rfl) (hpl : (backTo pos (starEach es X.env)).any (·.1) = false := by rfl) :
    PE X (.Call (.Name x p) (e :: es) [] pos) (tCall sp [] E t) := by
  obtain ⟨fd, F, kp, b⟩ := O.ex
  exact pe_call F hr hg hm kp b .nil hx ha hdb he hpl
theorem pe_call0O (O : Ok X.prog X.w X.K X.mg X.base CX k f ps sp) (hr : Room k X.A) (hg : Gl X x) (hm : X.mg x = some (.ref f)) (hx : Passes CX X E) (hdb : (x == ("__debug__" : Str)) = false := by decide) : PE X (.Call (.Name x p) [] [] pos) (tCall sp [] E tNil) := by
  obtain ⟨fd, F, kp, b⟩ := O.ex
  exact pe_call0 F hr hg hm kp b .nil hx hdb
theorem pe_methO {pl : Sem Bool} (he : PE X o ta) (c : Cls X.K C) (hm : Meth X.K C m f) (O : Ok X.prog X.w X.K X.mg X.base CX k f ps sp) (hr : Room k X.A) (hx : Passes CX X E) (ha : PA X (e :: es) t)
    (hst : starEach (e :: es) X.env = (false, eval e X.env) :: starEach es X.env := by rfl) (hpl : (backTo pos (starEach es X.env)).any (·.1) = false := by rfl)
    (ht : eval (.Call (.Attribute o m apos) (e :: es) [] pos) X.env = (do
      let ov ← eval o X.env
      standAt apos.atName
      let (f, first) ← holding [ov] (getMethod ov m pl)
      callWith pos f first (backTo pos (starEach (e :: es) X.env)) (backToKw pos (keywordEach [] X.env))) := by rfl) :
    PE X (.Call (.Attribute o m apos) (e :: es) [] pos) (tMeth C m sp [] E ta t) := by
  obtain ⟨fd, F, kp, b⟩ := O.ex
  exact pe_meth he c hm F hr b .nil hx ha hst hpl ht
theorem pe_meth0O {pl : Sem Bool} (he : PE X o ta) (c : Cls X.K C) (hm : Meth X.K C m f) (O : Ok X.prog X.w X.K X.mg X.base CX k f ps sp) (hr : Room k X.A) (hx : Passes CX X E)
    (ht : eval (.Call (.Attribute o m apos) [] [] pos) X.env = (do
      let ov ← eval o X.env
      standAt apos.atName
      let (f, first) ← holding [ov] (getMethod ov m pl)
      callWith pos f first (backTo pos (starEach [] X.env)) (backToKw pos (keywordEach [] X.env))) := by rfl) :
    PE X (.Call (.Attribute o m apos) [] [] pos) (tMeth C m sp [] E ta tNil) := by
  obtain ⟨fd, F, kp, b⟩ := O.ex
  exact pe_meth0 he c hm F hr b .nil hx ht
theorem pe_makeO (M : Mk X.K C f) (O : Ok X.prog X.w X.K X.mg X.base CX k f ps sp) (hr : Room (k + 1) X.A) (hg : Gl X x) (hm : X.mg x = some (.ref C)) (hx : Passes CX X E)
    (ha : PA X (e :: es) t) (hdb : (x == ("__debug__" : Str)) = false := by decide) (he : starEach (e :: es) X.env = (false, eval e X.env) :: starEach es X.env := by rfl) (hpl : (backTo pos (starEach es X.env)).any (·.1) = false := by rfl) :
    PE X (.Call (.Name x p) (e :: es) [] pos) (tMake C sp [] E t) := by
  obtain ⟨fd, F, kp, b⟩ := O.ex
  exact pe_make M F hr hg hm b .nil hx ha hdb he hpl
theorem pe_make0O (M : Mk X.K C f) (O : Ok X.prog X.w X.K X.mg X.base CX k f ps sp) (hr : Room (k + 1) X.A) (hg : Gl X x) (hm : X.mg x = some (.ref C)) (hx : Passes CX X E) (hdb : (x == ("__debug__" : Str)) = false := by decide) :
    PE X (.Call (.Name x p) [] [] pos) (tMake C sp [] E tNil) := by
  obtain ⟨fd, F, kp, b⟩ := O.ex
  exact pe_make0 M F hr hg hm b .nil hx hdb
end
/-! ### promises by the number of parameters -/
def sp1 (F : V → Hp → VK → XK → Prop) : Sp := fun vs H Q E => ∃ x, vs = [x] ∧ F x H Q E
def sp2 (F : V → V → Hp → VK → XK → Prop) : Sp := fun vs H Q E => ∃ x y, vs = [x, y] ∧ F x y H Q E
def sp3 (F : V → V → V → Hp → VK → XK → Prop) : Sp := fun vs H Q E => ∃ x y z, vs = [x, y, z] ∧ F x y z H Q E
def sp4 (F : V → V → V → V → Hp → VK → XK → Prop) : Sp := fun vs H Q E => ∃ x y z u, vs = [x, y, z, u] ∧ F x y z u H Q E
def sp5 (F : V → V → V → V → V → Hp → VK → XK → Prop) : Sp := fun vs H Q E => ∃ x y z u v, vs = [x, y, z, u, v] ∧ F x y z u v H Q E
def sp6 (F : V → V → V → V → V → V → Hp → VK → XK → Prop) : Sp := fun vs H Q E => ∃ x y z u v w, vs = [x, y, z, u, v, w] ∧ F x y z u v w H Q E
theorem sp1_len {F : V → Hp → VK → XK → Prop} (vs : List V) (H : Hp) (Q : VK) (E : XK) (h : sp1 F vs H Q E) : vs.length = 1 := by obtain ⟨_, rfl, _⟩ := h; rfl
theorem sp2_len {F : V → V → Hp → VK → XK → Prop} (vs : List V) (H : Hp) (Q : VK) (E : XK) (h : sp2 F vs H Q E) : vs.length = 2 := by obtain ⟨_, _, rfl, _⟩ := h; rfl
theorem sp3_len {F : V → V → V → Hp → VK → XK → Prop} (vs : List V) (H : Hp) (Q : VK) (E : XK) (h : sp3 F vs H Q E) : vs.length = 3 := by obtain ⟨_, _, _, rfl, _⟩ := h; rfl
theorem sp4_len {F : V → V → V → V → Hp → VK → XK → Prop} (vs : List V) (H : Hp) (Q : VK) (E : XK) (h : sp4 F vs H Q E) : vs.length = 4 := by obtain ⟨_, _, _, _, rfl, _⟩ := h; rfl
theorem sp5_len {F : V → V → V → V → V → Hp → VK → XK → Prop} (vs : List V) (H : Hp) (Q : VK) (E : XK) (h : sp5 F vs H Q E) : vs.length = 5 := by obtain ⟨_, _, _, _, _, rfl, _⟩ := h; rfl
theorem sp6_len {F : V → V → V → V → V → V → Hp → VK → XK → Prop} (vs : List V) (H : Hp) (Q : VK) (E : XK) (h : sp6 F vs H Q E) : vs.length = 6 := by obtain ⟨_, _, _, _, _, _, rfl, _⟩ := h; rfl
end Hc
namespace Hc
open PySem PySem.Spec PyProof.Rows L2 Evl
section
variable {P : Program} {w : World} {K : PySem.W.Frag} {mg : Str → Option Value} {base : Heap}
/-! ### backends -/
def bytL (k : Nat) (i : Nat) : List V := (List.range i).map fun j => V.int ((k / 256 ^ j % 256 : Nat) : Int)
def spBytes : Sp := sp1 fun x H Q _ => ∃ k : Nat, x = .int (k : Int) ∧ RetL (bytL k 4) H Q
theorem sc_bytes_of_key : FnScope ["key", "found", "turn"] ["key"] (defScope s_bytes_of_key) := ⟨rfl, rfl, rfl, by decide +kernel, rfl, by decide +kernel, by decide +kernel⟩
theorem ok_bytes_of_key (T : Tx K mg) : Ok P w K mg base CX0 1 (He.ga K "bytes_of_key") ["key"] spBytes := by
  obtain ⟨fd, F0⟩ := T.def_ 0 (d := d_bytes_of_key) rfl
  have F : FunD K "bytes_of_key" "bytes_of_key" (defArgs s_bytes_of_key) (defBody s_bytes_of_key) (defScope s_bytes_of_key) [] [] (He.ga K "bytes_of_key") fd := F0
  refine ⟨fd, F.ok sc_bytes_of_key sp1_len (fun cdv A outer s H vs Q E hr h => ?_), F.kp, F.bindsN fun _ _ _ _ _ _ us hl => match us, hl with | [_], _ => rfl⟩
  refine ⟨_, PSs.nox (pss_cons (ps_set (i := 1) sc_bytes_of_key.nd rfl (Or.inl rfl) (pe_lst pa_nil)) (pss_cons (ps_for PassesOwn.never rfl (pi_range1 rfl T.b_range (pa_cons pe_int pa_nil)) (pg_name (i := 2) sc_bytes_of_key.nd rfl (Or.inl rfl)) (pss_cons (ps_expr (pe_bm PySem.F.plainAttrs_list PySem.F.slot_list_append PySem.F.type_list_append mt_append (pv 1) (pa_cons (pe_op op_mod (pv 0) pe_int) pa_nil))) (pss_one (ps_set (i := 0) sc_bytes_of_key.nd rfl (Or.inl rfl) (pe_op op_fdiv (pv 0) pe_int))))) (pss_one (ps_ret (pv 1))))), ?_⟩
  obtain ⟨_, rfl, k, rfl, q⟩ := h
  refine q_asgL (el_lst ea_nil (by decide)) fun p H1 hp e1 h1 => ?_
  refine q_forR1 (n := 4) (ea_cons ev_c ea_nil) (by decide) (fun i σ' H' => ∃ v, σ' = [some (.int ((k / 256 ^ i : Nat) : Int)), some (.ref p), v] ∧ Ex H H' ∧ H' p = some (.lst (bytL k i))) ?_ ?_ ?_
  · exact fun H2 e2 => ⟨none, by rw [Nat.pow_zero, Nat.div_one]; rfl, e1.trans e2, e2 _ _ h1⟩
  · rintro i _ H2 hi ⟨v, rfl, e2, h2⟩
    refine q_app h2 (ev_var rfl) (ev_op (ev_var rfl) ev_c (rv_I (by decide))) (by simp only [bytL, List.length_map, List.length_range]; omega) fun H3 e3 => ?_
    refine s_asg (ev_op (ev_var rfl) ev_c (rv_I ⟨by decide, by decide⟩)) fun H4 e4 => ⟨some (.int (i : Int)), ?_, ?_, ?_⟩
    · rw [Nat.pow_succ, ← Nat.div_div_eq_div_mul]
      rfl
    · exact ((e2.trans e3).mut hp).trans e4
    · refine e4 _ _ (upd_same.trans ?_)
      unfold bytL
      rw [Hm.map_range_more]
      rfl
  · rintro _ H2 ⟨v, rfl, e2, h2⟩
    exact s_ret (ev_var rfl) fun H3 e3 => q p H3 hp (e2.trans e3) (e3 _ _ h2)
theorem bytL_map (n : Nat) : bytL n 4 = ((List.range 4).map fun j => n / 256 ^ j % 256).map fun (j : Nat) => V.int (j : Int) := by
  unfold bytL
  rw [List.map_map]
  rfl
def spHash : Sp := sp2 fun x y H Q _ => ∃ k n : Nat, x = .int (k : Int) ∧ y = .int (n : Int) ∧ RetV (.int (Kp423.hashOf k n : Int)) H Q
theorem sc_key_hash : FnScope ["key", "number", "value", "byte"] ["key", "number"] (defScope s_key_hash) := ⟨rfl, rfl, rfl, by decide +kernel, rfl, by decide +kernel, by decide +kernel⟩
theorem ok_key_hash (T : Tx K mg) : Ok P w K mg base CX0 2 (He.ga K "key_hash") ["key", "number"] spHash := by
  obtain ⟨fd, F0⟩ := T.def_ 1 (d := d_key_hash) rfl
  have F : FunD K "key_hash" "key_hash" (defArgs s_key_hash) (defBody s_key_hash) (defScope s_key_hash) [] [] (He.ga K "key_hash") fd := F0
  refine ⟨fd, F.ok sc_key_hash sp2_len (fun cdv A outer s H vs Q E hr h => ?_), F.kp, F.bindsN fun _ _ _ _ _ _ us hl => match us, hl with | [_, _], _ => rfl⟩
  refine ⟨_, PSs.nox (pss_cons (ps_set (i := 2) sc_key_hash.nd rfl (Or.inl rfl) (pe_gi T.i_HASH_START)) (pss_cons (ps_for PassesOwn.never rfl (pi_list (pe_op op_cat (pe_callO (ok_bytes_of_key T) (hr.mono (by decide)) rfl T.g_bytes_of_key pass0 (pa_cons (pv 0) pa_nil)) (pe_lst (pa_cons (pv 1) pa_nil)))) (pg_name (i := 3) sc_key_hash.nd rfl (Or.inl rfl)) (pss_one (ps_set (i := 2) sc_key_hash.nd rfl (Or.inl rfl) (pe_op op_mod (pe_op op_mul (pe_op op_xor (pv 2) (pv 3)) (pe_gi T.i_HASH_FACTOR)) (pe_gi T.i_HASH_RANGE))))) (pss_one (ps_ret (pv 2))))), ?_⟩
  obtain ⟨_, _, rfl, k, n, rfl, rfl, q⟩ := h
  obtain ⟨bs, hl, hk, hz⟩ : ∃ bs : List Nat, bytL k 4 ++ [V.int (n : Int)] = bs.map (fun (j : Nat) => V.int (j : Int)) ∧ Kp423.fnv bs = Kp423.hashOf k n ∧ bs.length = 5 :=
    ⟨_, by rw [bytL_map]; exact (List.map_append (l₁ := (List.range 4).map fun j => k / 256 ^ j % 256) (l₂ := [n])).symm, Hm.hash_is k n, by simp⟩
  refine q_asg ev_c fun H1 e1 => ?_
  refine q_forNLn (xs := bs.map fun (j : Nat) => V.int (j : Int)) ?_ (fun p i σ' H' => ∃ v, σ' = [some (.int (k : Int)), some (.int (n : Int)), some (.int (Kp423.fnv (bs.take i) : Int)), v] ∧ Ex H H' ∧
    H' p = some (.lst (bs.map fun (j : Nat) => V.int (j : Int)))) ?_ ?_ ?_ ?_
  · rw [← hl]
    exact el_cat (K := K) (el_call (ea_cons (ev_var rfl) ea_nil) (spL_of fun H2 _ Q E r => ⟨_, rfl, k, rfl, r⟩)) (fun H2 _ => el_lst (ea_cons (ev_var rfl) ea_nil) (by show 1 ≤ 100000; decide)) (by show 4 + 1 ≤ 100000; decide)
  · exact fun p H2 hp e2 h2 => ⟨none, rfl, e1.trans e2, h2⟩
  · rintro p i _ H2 _ ⟨v, rfl, e2, h2⟩
    exact sq_of h2
  · rintro p i x _ H2 hi ⟨v, rfl, e2, h2⟩
    rw [List.getElem?_map] at hi
    cases hb : bs[i]? with
    | none =>
      rw [hb] at hi
      cases hi
    | some b =>
      rw [hb] at hi
      cases hi
      refine s_asg (v := .int (Kp423.fnv (bs.take (i + 1)) : Int)) ?_ fun H3 e3 => ⟨some (.int (b : Int)), rfl, e2.trans e3, e3 _ _ h2⟩
      have x1 : Ev (tOp (rI0 fun i j => .int (Builtin.bitXor i j)) (tVar 2) (tVar 3)) [some (.int (k : Int)), some (.int (n : Int)), some (.int (Kp423.fnv (bs.take i) : Int)), some (.int (b : Int))] H2 (.int ((Kp423.fnv (bs.take i) ^^^ b : Nat) : Int)) :=
        ev_is (ev_op (ev_var rfl) (ev_var rfl) rv_I0) (congrArg V.int (xor_nat _ _))
      have x2 := ev_op x1 (ev_c (v := .int 16777619)) (rv_I (C := CMul) (g := fun i j => .int (i * j)) (Or.inr (by decide)))
      have x3 := ev_op x2 (ev_c (v := .int 4294967296)) (rv_I (C := fun _ j => 0 < j) (g := fun i j => .int (i % j)) (by decide))
      refine ev_is x3 (congrArg V.int ?_)
      rw [Hm.take_more hb, Hm.fnv_more, Int.natCast_emod, Int.natCast_mul]
      rfl
  · rintro p _ H2 ⟨v, rfl, e2, h2⟩
    refine s_ret (ev_var rfl) fun H3 e3 => ?_
    have z := q H3 (e2.trans e3)
    rw [← hk, ← List.take_of_length_le (Nat.le_of_eq hz)] at z
    rw [List.length_map, hz]
    exact z
end
end Hc
namespace Hc
open PySem PySem.Spec PyProof.Rows L2 Evl
/-! ### how the records lie in the heap -/
def optV : Option Nat → V
  | none => .non
  | some n => .int (n : Int)
def baF (i : Nat) (b : Kp423.Backend) : List (Str × V) := [("number", .int (i : Int)), ("weight", .int (b.weight : Int)), ("current", .int b.current), ("outstanding", .int (b.outstanding : Int)), ("failures", .int (b.failures : Int)), ("ejections", .int (b.ejections : Int)), ("ejected_until", optV b.ejectedUntil), ("is_active", .bl b.active)]
def InsAt (K : PySem.W.Frag) (H : Hp) (a : Addr) (c : Str) (fs : List (Str × V)) : Prop := ∃ dx, H a = some (.ins (He.ga K c) dx fs)
abbrev BaAt (K : PySem.W.Frag) (H : Hp) (a : Addr) (i : Nat) (b : Kp423.Backend) : Prop := InsAt K H a "Backend" (baF i b)
theorem InsAt.ex {K : PySem.W.Frag} {H H' : Hp} {a : Addr} {c : Str} {fs : List (Str × V)} (h : InsAt K H a c fs) (e : Ex H H') : InsAt K H' a c fs := by
  obtain ⟨dx, h⟩ := h
  exact ⟨dx, e _ _ h⟩
theorem ba_apart {K : PySem.W.Frag} {H : Hp} {a a' : Addr} {i i' : Nat} {b b' : Kp423.Backend} (h : BaAt K H a i b) (h' : BaAt K H a' i' b') (hi : i ≠ i') : a ≠ a' := by
  obtain ⟨dx, h⟩ := h
  obtain ⟨dx', h'⟩ := h'
  refine ne_of h h' fun z => hi ?_
  injection z with _ _ z
  injection z with z _
  injection z with _ z
  injection z with z
  exact Int.ofNat.inj z
section
variable {P : Program} {w : World} {K : PySem.W.Frag} {mg : Str → Option Value} {base : Heap} {H : Hp} {σ : L2.St} {ta : TE} {a : Addr} {i : Nat} {b : Kp423.Backend}
section
variable (T : Tx K mg) (h : Ev ta σ H (.ref a)) (hb : BaAt K H a i b)
include T h hb
theorem rB_number : Ev (tFld K ta "number") σ H (.int (i : Int)) := by
  obtain ⟨dx, hb⟩ := hb
  exact ev_fld h hb T.c_Backend T.n_Backend_number rfl
theorem rB_weight : Ev (tFld K ta "weight") σ H (.int (b.weight : Int)) := by
  obtain ⟨dx, hb⟩ := hb
  exact ev_fld h hb T.c_Backend T.n_Backend_weight rfl
theorem rB_current : Ev (tFld K ta "current") σ H (.int b.current) := by
  obtain ⟨dx, hb⟩ := hb
  exact ev_fld h hb T.c_Backend T.n_Backend_current rfl
theorem rB_outstanding : Ev (tFld K ta "outstanding") σ H (.int (b.outstanding : Int)) := by
  obtain ⟨dx, hb⟩ := hb
  exact ev_fld h hb T.c_Backend T.n_Backend_outstanding rfl
theorem rB_failures : Ev (tFld K ta "failures") σ H (.int (b.failures : Int)) := by
  obtain ⟨dx, hb⟩ := hb
  exact ev_fld h hb T.c_Backend T.n_Backend_failures rfl
theorem rB_ejections : Ev (tFld K ta "ejections") σ H (.int (b.ejections : Int)) := by
  obtain ⟨dx, hb⟩ := hb
  exact ev_fld h hb T.c_Backend T.n_Backend_ejections rfl
theorem rB_until : Ev (tFld K ta "ejected_until") σ H (optV b.ejectedUntil) := by
  obtain ⟨dx, hb⟩ := hb
  exact ev_fld h hb T.c_Backend T.n_Backend_ejected_until rfl
theorem rB_active : Ev (tFld K ta "is_active") σ H (.bl b.active) := by
  obtain ⟨dx, hb⟩ := hb
  exact ev_fld h hb T.c_Backend T.n_Backend_is_active rfl
end
/-- a store to a backend's attribute: what stands behind it -/
def BaTo (K : PySem.W.Frag) (H : Hp) (a : Addr) (i : Nat) (b : Kp423.Backend) (H' : Hp) : Prop := BaAt K H' a i b ∧ ∀ x o, H x = some o → x ≠ a → H' x = some o
theorem BaTo.after {H1 H2 : Hp} {b2 : Kp423.Backend} (e : Ex H H1) (k : BaTo K H1 a i b2 H2) : BaTo K H a i b2 H2 := ⟨k.1, fun x o q n => k.2 x o (e x o q) n⟩
theorem BaTo.then {H1 H2 : Hp} {b1 b2 : Kp423.Backend} (k1 : BaTo K H a i b1 H1) (k2 : BaTo K H1 a i b2 H2) : BaTo K H a i b2 H2 := ⟨k2.1, fun x o q n => k2.2 x o (k1.2 x o q n) n⟩
theorem ba_upd {dx : Addr} {fs : List (Str × V)} (hb : BaAt K H a i b) {b2 : Kp423.Backend} (e : fs = baF i b2) (hd : H a = some (.ins (He.ga K "Backend") dx (baF i b))) : BaTo K H a i b2 (upd H a (.ins (He.ga K "Backend") dx fs)) :=
  ⟨⟨dx, by rw [upd_same, e]⟩, fun x o q n => by rw [upd_ne n]; exact q⟩
/-- self.f = e of a backend: any attribute but the number -/
theorem s_ba {tb : TE} {v : V} {f : Str} {D : Ends} {b2 : Kp423.Backend} (T : Tx K mg) (hv : Ev tb σ H v) (h : Ev ta σ H (.ref a)) (hb : BaAt K H a i b) (n : NoAttr K (He.ga K "Backend") f) (e : putF f v (baF i b) = baF i b2) (k : ∀ H1, BaTo K H a i b2 H1 → D.nx σ H1) : sFld K ta tb f D σ H := by
  obtain ⟨dx, hd⟩ := hb
  refine s_fld hv h hd T.c_Backend n (by show 8 < 1000; decide) fun H1 e1 => k _ (BaTo.after e1 ?_)
  exact ba_upd ⟨dx, e1 _ _ hd⟩ e (e1 _ _ hd)
theorem q_ba {tb : TE} {v : V} {f : Str} {D : Ends} {tz : TS} {b2 : Kp423.Backend} (T : Tx K mg) (hv : Ev tb σ H v) (h : Ev ta σ H (.ref a)) (hb : BaAt K H a i b) (n : NoAttr K (He.ga K "Backend") f) (e : putF f v (baF i b) = baF i b2) (k : ∀ H1, BaTo K H a i b2 H1 → tz D σ H1) : tSeq (sFld K ta tb f) tz D σ H :=
  s_ba (D := { D with nx := tz D }) T hv h hb n e k
/-! ### the backend's methods -/
def newB (wt : Nat) : Kp423.Backend := ⟨true, wt, 0, 0, 0, 0, none⟩
def spBaInit (K : PySem.W.Frag) : Sp := sp3 fun x y z H Q _ => ∃ (p dx : Addr) (i wt : Nat), x = .ref p ∧ y = .int (i : Int) ∧ z = .int (wt : Int) ∧ H p = some (.ins (He.ga K "Backend") dx []) ∧
  ∀ H', BaAt K H' p i (newB wt) → (∀ b o, H b = some o → b ≠ p → H' b = some o) → Q .non H'
theorem sc_Backend_init : FnScope ["self", "number", "weight"] ["self", "number", "weight"] (defScope s_Backend_init) := ⟨rfl, rfl, rfl, by decide +kernel, rfl, by decide +kernel, by decide +kernel⟩
theorem ok_Backend_init (T : Tx K mg) : Ok P w K mg base CX0 1 (He.ma K (He.ga K "Backend") "__init__") ["self", "number", "weight"] (spBaInit K) := by
  obtain ⟨fd, F0⟩ := T.def_ 2 (d := d_Backend_init) rfl
  have F : FunD K "__init__" "Backend.__init__" (defArgs s_Backend_init) (defBody s_Backend_init) (defScope s_Backend_init) [] [] (He.ma K (He.ga K "Backend") "__init__") fd := F0
  refine ⟨fd, F.ok sc_Backend_init sp3_len (fun cdv A outer s H vs Q E hr h => ?_), F.kp, F.bindsN fun _ _ _ _ _ _ us hl => match us, hl with | [_, _, _], _ => rfl⟩
  refine ⟨_, PSs.nox (pss_cons (ps_fld (pv 0) (pv 1) rfl) (pss_cons (ps_fld (pv 0) (pv 2) rfl) (pss_cons (ps_fld (pv 0) pe_int rfl) (pss_cons (ps_fld (pv 0) pe_int rfl) (pss_cons (ps_fld (pv 0) pe_int rfl) (pss_cons (ps_fld (pv 0) pe_int rfl) (pss_cons (ps_fld (pv 0) pe_non rfl) (pss_one (ps_fld (pv 0) pe_bl rfl))))))))), ?_⟩
  obtain ⟨_, _, _, rfl, p, dx, i, wt, rfl, rfl, rfl, hp, k⟩ := h
  refine q_fld (ev_var rfl) (ev_var rfl) hp T.c_Backend T.n_Backend_number (by show 0 < 1000; decide) fun H1 e1 => ?_
  refine q_fld (ev_var rfl) (ev_var rfl) upd_same T.c_Backend T.n_Backend_weight (by show 1 < 1000; decide) fun H2 e2 => ?_
  refine q_fld ev_c (ev_var rfl) upd_same T.c_Backend T.n_Backend_current (by show 2 < 1000; decide) fun H3 e3 => ?_
  refine q_fld ev_c (ev_var rfl) upd_same T.c_Backend T.n_Backend_outstanding (by show 3 < 1000; decide) fun H4 e4 => ?_
  refine q_fld ev_c (ev_var rfl) upd_same T.c_Backend T.n_Backend_failures (by show 4 < 1000; decide) fun H5 e5 => ?_
  refine q_fld ev_c (ev_var rfl) upd_same T.c_Backend T.n_Backend_ejections (by show 5 < 1000; decide) fun H6 e6 => ?_
  refine q_fld ev_c (ev_var rfl) upd_same T.c_Backend T.n_Backend_ejected_until (by show 6 < 1000; decide) fun H7 e7 => ?_
  refine s_fld ev_c (ev_var rfl) upd_same T.c_Backend T.n_Backend_is_active (by show 7 < 1000; decide) fun H8 e8 => ?_
  refine k _ ⟨dx, upd_same.trans rfl⟩ fun b o q n => ?_
  rw [upd_ne n]
  refine e8 _ _ ?_
  rw [upd_ne n]
  refine e7 _ _ ?_
  rw [upd_ne n]
  refine e6 _ _ ?_
  rw [upd_ne n]
  refine e5 _ _ ?_
  rw [upd_ne n]
  refine e4 _ _ ?_
  rw [upd_ne n]
  refine e3 _ _ ?_
  rw [upd_ne n]
  refine e2 _ _ ?_
  rw [upd_ne n]
  exact e1 _ _ q
/-- whether the time of the last ejection is not reached yet -/
def ejd (b : Kp423.Backend) (now : Nat) : Bool := match b.ejectedUntil with
  | none => false
  | some t => decide (now < t)
def spIsEj (K : PySem.W.Frag) : Sp := sp2 fun x y H Q _ => ∃ (a : Addr) (i now : Nat) (b : Kp423.Backend), x = .ref a ∧ y = .int (now : Int) ∧ BaAt K H a i b ∧ RetV (.bl (ejd b now)) H Q
theorem lt_cast (a b : Nat) : decide ((a : Int) < (b : Int)) = decide (a < b) := decide_eq_decide.mpr (by omega)
theorem le_cast (a b : Nat) : decide ((a : Int) ≤ (b : Int)) = decide (a ≤ b) := decide_eq_decide.mpr (by omega)
theorem sc_Backend_is_ejected : FnScope ["self", "now"] ["self", "now"] (defScope s_Backend_is_ejected) := ⟨rfl, rfl, rfl, by decide +kernel, rfl, by decide +kernel, by decide +kernel⟩
theorem ok_Backend_is_ejected (T : Tx K mg) : Ok P w K mg base CX0 1 (He.ma K (He.ga K "Backend") "is_ejected") ["self", "now"] (spIsEj K) := by
  obtain ⟨fd, F0⟩ := T.def_ 3 (d := d_Backend_is_ejected) rfl
  have F : FunD K "is_ejected" "Backend.is_ejected" (defArgs s_Backend_is_ejected) (defBody s_Backend_is_ejected) (defScope s_Backend_is_ejected) [] [] (He.ma K (He.ga K "Backend") "is_ejected") fd := F0
  refine ⟨fd, F.ok sc_Backend_is_ejected sp2_len (fun cdv A outer s H vs Q E hr h => ?_), F.kp, F.bindsN fun _ _ _ _ _ _ us hl => match us, hl with | [_, _], _ => rfl⟩
  refine ⟨_, PSs.nox (pss_one (ps_ret (pe_and (pe_cmpR op_notN (pe_fld (pv 0) rfl) pe_non (nomark _)) (pe_one (pe_cmpR op_lt (pv 1) (pe_fld (pv 0) rfl) (nomark _)))))), ?_⟩
  obtain ⟨_, _, rfl, a, i, now, b, rfl, rfl, hb, k⟩ := h
  refine s_ret (v := .bl (ejd b now)) ?_ k
  cases hu : b.ejectedUntil with
  | none =>
    have x1 := ev_notN (rB_until T (ev_var (σ := start ["self", "now"] [V.ref a, V.int (now : Int)]) (i := 0) rfl) hb)
    rw [hu] at x1
    refine ev_is (ev_andV (b := false) x1 fun z => Bool.noConfusion z) ?_
    unfold ejd
    rw [hu]
    rfl
  | some t =>
    have x1 := ev_notN (rB_until T (ev_var (σ := start ["self", "now"] [V.ref a, V.int (now : Int)]) (i := 0) rfl) hb)
    have x2 := rB_until T (ev_var (σ := start ["self", "now"] [V.ref a, V.int (now : Int)]) (i := 0) rfl) hb
    rw [hu] at x1 x2
    refine ev_is (ev_andV x1 fun _ => ev_op (ev_var rfl) x2 rv_I0) ?_
    unfold ejd
    rw [hu]
    exact congrArg V.bl (lt_cast now t)
def spIsAv (K : PySem.W.Frag) : Sp := sp2 fun x y H Q _ => ∃ (a : Addr) (i now : Nat) (b : Kp423.Backend), x = .ref a ∧ y = .int (now : Int) ∧ BaAt K H a i b ∧ RetV (.bl (b.active && !ejd b now)) H Q
theorem sc_Backend_is_available : FnScope ["self", "now"] ["self", "now"] (defScope s_Backend_is_available) := ⟨rfl, rfl, rfl, by decide +kernel, rfl, by decide +kernel, by decide +kernel⟩
theorem ok_Backend_is_available (T : Tx K mg) : Ok P w K mg base CX0 2 (He.ma K (He.ga K "Backend") "is_available") ["self", "now"] (spIsAv K) := by
  obtain ⟨fd, F0⟩ := T.def_ 4 (d := d_Backend_is_available) rfl
  have F : FunD K "is_available" "Backend.is_available" (defArgs s_Backend_is_available) (defBody s_Backend_is_available) (defScope s_Backend_is_available) [] [] (He.ma K (He.ga K "Backend") "is_available") fd := F0
  refine ⟨fd, F.ok sc_Backend_is_available sp2_len (fun cdv A outer s H vs Q E hr h => ?_), F.kp, F.bindsN fun _ _ _ _ _ _ us hl => match us, hl with | [_, _], _ => rfl⟩
  refine ⟨_, PSs.nox (pss_one (ps_ret (pe_and (pe_fld (pv 0) rfl) (pe_one (pe_not (pe_methO (pv 0) T.c_Backend T.m_Backend_is_ejected (ok_Backend_is_ejected T) (hr.mono (by decide)) pass0 (pa_cons (pv 1) pa_nil))))))), ?_⟩
  obtain ⟨_, _, rfl, a, i, now, b, rfl, rfl, hb, k⟩ := h
  obtain ⟨dx, hd⟩ := id hb
  exact s_ret (ev_andV (rB_active T (ev_var rfl) hb) fun _ => ev_notV (ev_meth (ev_var rfl) hd rfl (ea_cons (ev_var rfl) ea_nil) (spV_of fun H1 e1 Q E r => ⟨_, _, rfl, a, i, now, b, rfl, rfl, hb.ex e1, r⟩))) k
def spEject (K : PySem.W.Frag) : Sp := sp3 fun x y z H Q _ => ∃ (a : Addr) (i now d : Nat) (b : Kp423.Backend), x = .ref a ∧ y = .int (now : Int) ∧ z = .int (d : Int) ∧ d ≤ 100000 ∧ BaAt K H a i b ∧
  ∀ H', BaTo K H a i { b with failures := 0, ejections := b.ejections + 1, ejectedUntil := some (now + d * (b.ejections + 1)) } H' → Q .non H'
theorem sc_Backend_eject : FnScope ["self", "now", "duration"] ["self", "now", "duration"] (defScope s_Backend_eject) := ⟨rfl, rfl, rfl, by decide +kernel, rfl, by decide +kernel, by decide +kernel⟩
theorem ok_Backend_eject (T : Tx K mg) : Ok P w K mg base CX0 1 (He.ma K (He.ga K "Backend") "eject") ["self", "now", "duration"] (spEject K) := by
  obtain ⟨fd, F0⟩ := T.def_ 5 (d := d_Backend_eject) rfl
  have F : FunD K "eject" "Backend.eject" (defArgs s_Backend_eject) (defBody s_Backend_eject) (defScope s_Backend_eject) [] [] (He.ma K (He.ga K "Backend") "eject") fd := F0
  refine ⟨fd, F.ok sc_Backend_eject sp3_len (fun cdv A outer s H vs Q E hr h => ?_), F.kp, F.bindsN fun _ _ _ _ _ _ us hl => match us, hl with | [_, _, _], _ => rfl⟩
  refine ⟨_, PSs.nox (pss_cons (ps_fld (pv 0) (pe_op op_add (pe_fld (pv 0) rfl) pe_int) rfl) (pss_cons (ps_fld (pv 0) (pe_op op_add (pv 1) (pe_op op_mul (pv 2) (pe_fld (pv 0) rfl))) rfl) (pss_one (ps_fld (pv 0) pe_int rfl)))), ?_⟩
  obtain ⟨_, _, _, rfl, a, i, now, d, b, rfl, rfl, rfl, hd, hb, k⟩ := h
  refine q_ba (b2 := { b with ejections := b.ejections + 1 }) T (ev_op (rB_ejections T (ev_var rfl) hb) ev_c rv_I0) (ev_var rfl) hb T.n_Backend_ejections rfl fun H1 b1 => ?_
  refine q_ba (b2 := { b with ejections := b.ejections + 1, ejectedUntil := some (now + d * (b.ejections + 1)) }) T (ev_op (ev_var rfl) (ev_op (ev_var rfl) (rB_ejections T (ev_var rfl) b1.1) (rv_I (Or.inl ⟨by omega, by omega⟩))) rv_I0) (ev_var rfl) b1.1 T.n_Backend_ejected_until ?_ fun H2 b2 => ?_
  · have e : ((now : Int) + (d : Int) * ((b.ejections + 1 : Nat) : Int)) = ((now + d * (b.ejections + 1) : Nat) : Int) := by
      rw [Int.natCast_add now, Int.natCast_mul d]
    rw [e]
    rfl
  · exact s_ba (b2 := { b with failures := 0, ejections := b.ejections + 1, ejectedUntil := some (now + d * (b.ejections + 1)) }) T ev_c (ev_var rfl) b2.1 T.n_Backend_failures rfl fun H3 b3 => k H3 ((b1.then b2).then b3)
end
end Hc
namespace Hc
open PySem PySem.Spec PyProof.Rows L2 Evl
section
variable {K : PySem.W.Frag} {σ : L2.St} {H : Hp} {te tl ta : TE}
/-- f(x, l), l a list made on the way -/
theorem ev_call2L {sp : Sp} {E : XK} {x z : V} {xs : List V} (ha : Ev ta σ H x) (hl : EvL tl σ H xs) (hs : ∀ p H1, Ex H H1 → H1 p = some (.lst xs) → SpV sp [x, .ref p] H1 z) : Ev (tCall sp [] E (tCons ta (tCons tl tNil))) σ H z := fun H1 e Q q =>
  ha H1 e _ fun H2 e2 => hl H2 (e.trans e2) _ fun p H3 _ e3 h3 => hs p H3 ((e.trans e2).trans e3) h3 H3 (Ex.refl H3) Q (fun H4 e4 => q H4 ((e2.trans e3).trans e4)) E
/-- a new list, told by a word of the heap -/
def EvP (te : TE) (σ : L2.St) (H : Hp) (R : Hp → List V → Prop) : Prop := ∀ H1, Ex H H1 → ∀ Q : VK, (∀ p H2 xs, H1 p = none → Ex H1 H2 → H2 p = some (.lst xs) → R H2 xs → Q (.ref p) H2) → te σ H1 Q
/-- xs are tuples of what f says of l -/
def Tups {α : Type} (f : α → List V) (l : List α) (H : Hp) (xs : List V) : Prop := Paired (fun x u => ∃ t, x = V.ref t ∧ H t = some (.tup (f u))) xs l
theorem Tups.ex {α : Type} {f : α → List V} {H H' : Hp} (e : ∀ t us, H t = some (.tup us) → H' t = some (.tup us)) {l : List α} {xs : List V} (h : Tups f l H xs) : Tups f l H' xs := by
  unfold Tups at h ⊢
  induction h with
  | nil => exact .nil
  | cons r _ ih =>
    obtain ⟨t, r1, r2⟩ := r
    exact .cons ⟨t, r1, e _ _ r2⟩ ih
theorem Tups.snoc {α : Type} {f : α → List V} {H : Hp} {l : List α} {xs : List V} (h : Tups f l H xs) {t : Addr} {u : α} (ht : H t = some (.tup (f u))) : Tups f (l ++ [u]) H (xs ++ [.ref t]) := by
  unfold Tups at h ⊢
  induction h with
  | nil => exact .cons ⟨t, rfl, ht⟩ .nil
  | cons r _ ih => exact .cons r ih
theorem Tups.len {α : Type} {f : α → List V} {H : Hp} {l : List α} {xs : List V} (h : Tups f l H xs) : xs.length = l.length := Paired.length h
theorem ep_lcU {α : Type} (l : List α) (g : α → V) (f : α → List V) {a : Addr} {j : Nat} {vs : List Nat} (h : Ev tl σ H (.ref a)) (hx : SqL K H a (l.map g)) (hz : l.length ≤ 40000) (hw : ∀ x, wipe ((wipe σ vs).set j (some x)) vs = wipe σ vs)
    (he : ∀ x ∈ l, ∀ H1, Ex H H1 → EvU te ((wipe σ vs).set j (some (g x))) H1 (f x)) : EvP (tLc (iList K tl) (gName j) tYes te vs) σ H (Tups f l) := fun H0 e Q q => h H0 e _ fun H1 e1 => ⟨a, rfl, ⟨l.map g, ex_l (e.trans e1) hx⟩, fun D hD =>
  lc_list (xs := l.map g) (fun i H' => Ex H1 H' ∧ ∃ acc, H' D = some (.lst acc) ∧ Tups f (l.take i) H' acc) ⟨Ex.new hD, [], upd_same, .nil⟩ (fun i H' _ p => ex_l ((e.trans e1).trans p.1) hx)
    (fun i x H' hi p => by
      rw [List.getElem?_map] at hi
      cases c : l[i]? with
      | none => rw [c] at hi; cases hi
      | some y =>
        rw [c] at hi
        cases hi
        refine ⟨hw _, ?_⟩
        show te ((wipe σ vs).set j (some (g y))) H' fun v H4 => ∃ acc, H4 D = some (.lst acc) ∧ acc.length < sizeLine ∧ (Ex H1 (upd H4 D (.lst (acc ++ [v]))) ∧ ∃ acc2, upd H4 D (.lst (acc ++ [v])) D = some (.lst acc2) ∧ Tups f (l.take (i + 1)) (upd H4 D (.lst (acc ++ [v]))) acc2)
        obtain ⟨p1, acc, p2, p3⟩ := p
        refine he y (List.mem_of_getElem? c) H' ((e.trans e1).trans p1) H' (Ex.refl H') _ fun t H4 ht e4 h4 => ⟨acc, e4 _ _ p2, ?_, Ex.mut (p1.trans e4) hD, _, upd_same, ?_⟩
        · have := p3.len
          have : (l.take i).length ≤ l.length := by rw [List.length_take]; omega
          exact sz_lt (by omega)
        · have et : l.take (i + 1) = l.take i ++ [y] := by
            rw [List.take_add_one, c]
            rfl
          rw [et]
          refine Tups.ex (H := H4) (fun s us hs => ?_) ((p3.ex fun s us hs => e4 _ _ hs).snoc h4)
          rw [upd_ne (ne_of hs (e4 _ _ p2) (by intro z; cases z))]
          exact hs)
    (fun H' p => by
      obtain ⟨p1, acc, p2, p3⟩ := p
      rw [List.length_map, List.take_length] at p3
      exact q D H' acc (fresh_back e1 hD) (e1.trans p1) p2 p3)⟩
end
section
variable {P : Program} {w : World} {K : PySem.W.Frag} {mg : Str → Option Value} {base : Heap}
/-! ### choosing -/
def spGreatest (K : PySem.W.Frag) : Sp := sp2 fun x y H Q _ => ∃ (c v : Addr) (xs : List V) (ns : List Int) (j : Nat) (m : Int) (r : V), x = .ref c ∧ y = .ref v ∧ SqL K H c xs ∧ SqL K H v (ns.map V.int) ∧ ns[j]? = some m ∧ (∀ y ∈ ns, y ≤ m) ∧ (∀ i, i < j → ∀ z, ns[i]? = some z → z ≠ m) ∧ xs[j]? = some r ∧ RetV r H Q
theorem sc_greatest : FnScope ["candidates", "values"] ["candidates", "values"] (defScope s_greatest) := ⟨rfl, rfl, rfl, by decide +kernel, rfl, by decide +kernel, by decide +kernel⟩
theorem ok_greatest (T : Tx K mg) : Ok P w K mg base CX0 1 (He.ga K "greatest") ["candidates", "values"] (spGreatest K) := by
  obtain ⟨fd, F0⟩ := T.def_ 6 (d := d_greatest) rfl
  have F : FunD K "greatest" "greatest" (defArgs s_greatest) (defBody s_greatest) (defScope s_greatest) [] [] (He.ga K "greatest") fd := F0
  refine ⟨fd, F.ok sc_greatest sp2_len (fun cdv A outer s H vs Q E hr h => ?_), F.kp, F.bindsN fun _ _ _ _ _ _ us hl => match us, hl with | [_, _], _ => rfl⟩
  refine ⟨_, PSs.nox (pss_one (ps_ret (pe_ix ix_list (pv 0) (pe_bm PySem.F.plainAttrs_list PySem.F.slot_list_index PySem.F.type_list_index mt_index (pv 1) (pa_cons (pe_callB (cr_max rfl) rfl T.b_max (by decide +kernel) (pa_cons (pv 1) pa_nil)) pa_nil)) (fun _ _ => rfl)))), ?_⟩
  obtain ⟨_, _, rfl, c, v, xs, ns, j, m, r, rfl, rfl, hc, hv, hj, hm, hf, hr2, k⟩ := h
  exact s_ret (ev_op (ev_var rfl) (ev_index (ev_var rfl) hv (ev_max (ev_var rfl) hv (List.mem_of_getElem? hj) hm) hj hf) (rv_ixL hc (atI_nat hr2))) k
/-- the numbers l of backends, where they stand, what they are -/
def Bas (K : PySem.W.Frag) (H : Hp) (l : List Nat) (β : Nat → Addr) (bk : Nat → Kp423.Backend) : Prop := ∀ i ∈ l, BaAt K H (β i) i (bk i)
theorem Bas.ex {H H' : Hp} {l : List Nat} {β : Nat → Addr} {bk : Nat → Kp423.Backend} (h : Bas K H l β bk) (e : Ex H H') : Bas K H' l β bk := fun i hi => (h i hi).ex e
abbrev baL (l : List Nat) (β : Nat → Addr) : List V := l.map fun i => V.ref (β i)
def spFromPtr (K : PySem.W.Frag) : Sp := sp2 fun x y H Q _ => ∃ (c : Addr) (l : List Nat) (β : Nat → Addr) (bk : Nat → Kp423.Backend) (p i : Nat), x = .ref c ∧ y = .int (p : Int) ∧ H c = some (.lst (baL l β)) ∧ Bas K H l β bk ∧ l.length ≤ 1000 ∧
  ((l.filter fun i => decide (p ≤ i)) ++ l).head? = some i ∧ RetV (.ref (β i)) H Q
theorem sc_from_pointer : FnScope ["candidates", "pointer", "later", "backend"] ["candidates", "pointer"] (defScope s_from_pointer) := ⟨rfl, rfl, rfl, by decide +kernel, rfl, by decide +kernel, by decide +kernel⟩
theorem ok_from_pointer (T : Tx K mg) : Ok P w K mg base CX0 1 (He.ga K "from_pointer") ["candidates", "pointer"] (spFromPtr K) := by
  obtain ⟨fd, F0⟩ := T.def_ 7 (d := d_from_pointer) rfl
  have F : FunD K "from_pointer" "from_pointer" (defArgs s_from_pointer) (defBody s_from_pointer) (defScope s_from_pointer) [] [] (He.ga K "from_pointer") fd := F0
  refine ⟨fd, F.ok sc_from_pointer sp2_len (fun cdv A outer s H vs Q E hr h => ?_), F.kp, F.bindsN fun _ _ _ _ _ _ us hl => match us, hl with | [_, _], _ => rfl⟩
  refine ⟨_, PSs.nox (pss_cons (ps_setLc (i := 2) (own := [("backend", 3)]) (g := (gName 3)) (tt := (tTest (tOp (rI0 fun i j => .bl (decide (j ≤ i))) (tFld K (tVar 3) "number") (tVar 1)))) (te := (tVar 3)) rfl sc_from_pointer.nd rfl rfl (sw_true rfl rfl rfl (by decide +kernel)) (pi_list (pv 0)) (blkOk_by (own := [("backend", 3)]) (N := ["candidates", "pointer", "later", "backend"]) (sc := defScope s_from_pointer) (by decide +kernel)) (fun _ _ _ _ _ => by exact (pg_name (i := 3) sc_from_pointer.nd rfl (Or.inl rfl))) (fun _ _ _ _ _ => by exact (pts_one (pt_cmpR op_ge (pe_fld (pv 3) rfl) (pv 1) (nomark _)))) (fun _ _ _ _ _ => by exact (pv 3))) (pss_one (ps_ret (pe_ix ix_list (pe_op op_cat (pv 2) (pv 0)) pe_int (fun _ _ => rfl))))), ?_⟩
  obtain ⟨_, _, rfl, c, l, β, bk, p, i, rfl, rfl, hc, hb, hz, hi, k⟩ := h
  refine q_asgL (xs := (l.filter fun i => decide (p ≤ i)).map fun i => V.ref (β i)) ?_ fun q H1 hq e1 h1 => ?_
  · exact el_lcM (K := K) l (fun i => V.ref (β i)) (fun i => decide (p ≤ i)) (fun i => V.ref (β i)) (ev_var rfl) (sq_of hc) (by omega) (fun _ => rfl)
      (fun x hx H1 e1 => et_test (ev_is (ev_op (rB_number T (ev_var rfl) ((hb x hx).ex e1)) (ev_var rfl) rv_I0) (congrArg V.bl (le_cast p x)))) (fun x hx H1 e1 _ => ev_var rfl)
  · refine s_ret (v := .ref (β i)) ?_ fun H2 e2 => k H2 (e1.trans e2)
    have hl := List.length_filter_le (fun i => decide (p ≤ i)) l
    refine ev_opL1 (el_catVV (K := K) (ev_var rfl) h1 (ev_var rfl) (e1 _ _ hc) (by simp only [List.length_map]; omega)) (fun H2 e2 => ev_c) fun p2 H2 h2 e2 => rv_ixL (sq_of h2) ?_
    refine (atI_nat (j := 0) ?_)
    rw [← List.map_append, List.getElem?_map, ← List.head?_eq_getElem?, hi]
    rfl
def spChoice (K : PySem.W.Frag) : Sp := sp4 fun x y z u H Q _ => ∃ (bal : Nat) (c : Addr) (l : List Nat) (β : Nat → Addr) (bk : Nat → Kp423.Backend) (p key i : Nat), x = .int (bal : Int) ∧ y = .ref c ∧ z = .int (p : Int) ∧ u = .int (key : Int) ∧
  H c = some (.lst (baL l β)) ∧ Bas K H l β bk ∧ l.length ≤ 1000 ∧ Hm.pick bal l p key bk = some i ∧ RetV (.ref (β i)) H Q
theorem first_of {value : Nat → Int} {l : List Nat} {i : Nat} (h : Kp423.firstGreatest l value = some i) : ∃ j : Nat, l[j]? = some i ∧ (∀ y ∈ l.map value, y ≤ value i) ∧ (∀ k, k < j → ∀ z, (l.map value)[k]? = some z → z ≠ value i) := by
  have hl : l ≠ [] := by
    rintro rfl
    cases h
  obtain ⟨j, m, h1, h2, h3⟩ := Hm.greatest_some (value := value) hl
  have e := Hm.greatest_is h1 h2 h3
  rw [h] at e
  cases e
  refine ⟨j, h1, fun y hy => ?_, fun k hk z hz => ?_⟩
  · obtain ⟨x, hx, rfl⟩ := List.mem_map.mp hy
    exact h2 x hx
  · rw [List.getElem?_map] at hz
    cases c : l[k]? with
    | none => rw [c] at hz; cases hz
    | some x =>
      rw [c] at hz
      cases hz
      exact h3 k hk x c
theorem ev_greatest {σ : L2.St} {H : Hp} {ta tl : TE} {E : XK} {c : Addr} {l : List Nat} {β : Nat → Addr} {value : Nat → Int} {i : Nat} (ha : Ev ta σ H (.ref c)) (hc : SqL K H c (baL l β)) (hl : EvL tl σ H (l.map fun i => V.int (value i))) (hi : Kp423.firstGreatest l value = some i) :
    Ev (tCall (spGreatest K) [] E (tCons ta (tCons tl tNil))) σ H (.ref (β i)) := by
  obtain ⟨j, h1, h2, h3⟩ := first_of hi
  refine ev_call2L ha hl fun p H1 e1 hp => spV_of fun H2 e2 Q E r => ⟨_, _, rfl, c, p, baL l β, l.map value, j, value i, .ref (β i), rfl, rfl, ex_l (e1.trans e2) hc, sq_of (e2 _ _ (hp.trans ?_)), ?_, h2, h3, ?_, r⟩
  · rw [List.map_map]
    rfl
  · rw [List.getElem?_map, h1]
    rfl
  · rw [List.getElem?_map, h1]
    rfl
theorem eq_cast (a b : Nat) : decide (V.int (a : Int) = V.int (b : Int)) = decide (a = b) := decide_eq_decide.mpr ⟨fun z => by injection z with z; omega, fun z => by rw [z]⟩
theorem et_eqN {σ : L2.St} {H : Hp} {ta tb : TE} {a b : Nat} (ha : Ev ta σ H (.int (a : Int))) (hb : Ev tb σ H (.int (b : Int))) : EvT (tTest (tOp rEq ta tb)) σ H (decide (a = b)) := et_is (et_test (ev_op ha hb (rv_eq rfl))) (eq_cast a b)
theorem sc_choice : FnScope ["balancer", "candidates", "pointer", "key", "backend"] ["balancer", "candidates", "pointer", "key"] (defScope s_choice) := ⟨rfl, rfl, rfl, by decide +kernel, rfl, by decide +kernel, by decide +kernel⟩
theorem ok_choice (T : Tx K mg) : Ok P w K mg base CX0 3 (He.ga K "choice") ["balancer", "candidates", "pointer", "key"] (spChoice K) := by
  obtain ⟨fd, F0⟩ := T.def_ 8 (d := d_choice) rfl
  have F : FunD K "choice" "choice" (defArgs s_choice) (defBody s_choice) (defScope s_choice) [] [] (He.ga K "choice") fd := F0
  refine ⟨fd, F.ok sc_choice sp4_len (fun cdv A outer s H vs Q E hr h => ?_), F.kp, F.bindsN fun _ _ _ _ _ _ us hl => match us, hl with | [_, _, _, _], _ => rfl⟩
  refine ⟨_, PSs.nox (pss_cons (ps_if (pt_cmpR op_eq (pv 0) (pe_gi T.i_ROUND_ROBIN) (nomark _)) (pss_one (ps_ret (pe_callO (ok_from_pointer T) (hr.mono (by decide)) rfl T.g_from_pointer pass0 (pa_cons (pv 1) (pa_cons (pv 2) pa_nil))))) pss_nil) (pss_cons (ps_if (pt_cmpR op_eq (pv 0) (pe_gi T.i_WEIGHTED) (nomark _)) (pss_one (ps_ret (pe_callO (ok_greatest T) (hr.mono (by decide)) rfl T.g_greatest pass0 (pa_cons (pv 1) (pa_cons (pe_lc (own := [("backend", 4)]) (g := (gName 4)) (tt := tYes) (te := (tOp (rI0 fun i j => .int (i + j)) (tFld K (tVar 4) "current") (tFld K (tVar 4) "weight"))) rfl sc_choice.nd (pi_list (pv 1)) (blkOk_by (own := [("backend", 4)]) (N := ["balancer", "candidates", "pointer", "key", "backend"]) (sc := defScope s_choice) (by decide +kernel)) (fun _ _ _ _ _ => by exact (pg_name (i := 4) sc_choice.nd rfl (Or.inl rfl))) (fun _ _ _ _ _ => by exact pts_nil) (fun _ _ _ _ _ => by exact (pe_op op_add (pe_fld (pv 4) rfl) (pe_fld (pv 4) rfl)))) pa_nil))))) pss_nil) (pss_cons (ps_if (pt_cmpR op_eq (pv 0) (pe_gi T.i_LEAST_OUTSTANDING) (nomark _)) (pss_one (ps_ret (pe_callO (ok_greatest T) (hr.mono (by decide)) rfl T.g_greatest pass0 (pa_cons (pv 1) (pa_cons (pe_lc (own := [("backend", 4)]) (g := (gName 4)) (tt := tYes) (te := (tUn (rU fun i => .int (-i)) (tFld K (tVar 4) "outstanding"))) rfl sc_choice.nd (pi_list (pv 1)) (blkOk_by (own := [("backend", 4)]) (N := ["balancer", "candidates", "pointer", "key", "backend"]) (sc := defScope s_choice) (by decide +kernel)) (fun _ _ _ _ _ => by exact (pg_name (i := 4) sc_choice.nd rfl (Or.inl rfl))) (fun _ _ _ _ _ => by exact pts_nil) (fun _ _ _ _ _ => by exact (pe_un un_neg (pe_fld (pv 4) rfl)))) pa_nil))))) pss_nil) (pss_one (ps_ret (pe_callO (ok_greatest T) (hr.mono (by decide)) rfl T.g_greatest pass0 (pa_cons (pv 1) (pa_cons (pe_lc (own := [("backend", 4)]) (g := (gName 4)) (tt := tYes) (te := (tCall spHash [] E0 (tCons (tVar 3) (tCons (tFld K (tVar 4) "number") tNil)))) rfl sc_choice.nd (pi_list (pv 1)) (blkOk_by (own := [("backend", 4)]) (N := ["balancer", "candidates", "pointer", "key", "backend"]) (sc := defScope s_choice) (by decide +kernel)) (fun _ _ _ _ _ => by exact (pg_name (i := 4) sc_choice.nd rfl (Or.inl rfl))) (fun _ _ _ _ _ => by exact pts_nil) (fun _ _ _ _ _ => by exact (pe_callO (ok_key_hash T) (hr.mono (by decide)) rfl T.g_key_hash pass0 (pa_cons (pv 3) (pa_cons (pe_fld (pv 4) rfl) pa_nil))))) pa_nil)))))))), ?_⟩
  obtain ⟨_, _, _, _, rfl, bal, c, l, β, bk, p, key, i, rfl, rfl, rfl, rfl, hc, hb, hz, hi, k⟩ := h
  refine q_when (et_eqN (b := 0) (ev_var rfl) ev_c) (fun hb0 H1 e1 => ?_) fun hb0 H1 e1 => ?_
  · have e0 : bal = 0 := of_decide_eq_true hb0
    subst e0
    refine s_ret (ev_call (ea_cons (ev_var rfl) (ea_cons (ev_var rfl) ea_nil)) (spV_of fun H2 e2 Q E r => ⟨_, _, rfl, c, l, β, bk, p, i, rfl, rfl, e2 _ _ (e1 _ _ hc), (hb.ex e1).ex e2, hz, ?_, r⟩)) fun H2 e2 => k H2 (e1.trans e2)
    rw [← Hm.find_pick]
    exact hi
  refine q_when (et_eqN (b := 1) (ev_var rfl) ev_c) (fun hb1 H2 e2 => ?_) fun hb1 H2 e2 => ?_
  · have e0 : bal = 1 := of_decide_eq_true hb1
    subst e0
    exact s_ret (ev_greatest (value := fun i => (bk i).current + (bk i).weight) (ev_var rfl) (sq_of ((e1.trans e2) _ _ hc)) (el_lcA (K := K) l (fun i => V.ref (β i)) (fun i => V.int ((bk i).current + (bk i).weight)) (ev_var rfl) (sq_of ((e1.trans e2) _ _ hc)) (by omega) (fun _ => rfl)
      fun x hx H3 e3 => ev_op (rB_current T (ev_var rfl) ((hb x hx).ex ((e1.trans e2).trans e3))) (rB_weight T (ev_var rfl) ((hb x hx).ex ((e1.trans e2).trans e3))) rv_I0) hi) fun H3 e3 => k H3 ((e1.trans e2).trans e3)
  refine q_when (et_eqN (b := 2) (ev_var rfl) ev_c) (fun hb2 H3 e3 => ?_) fun hb2 H3 e3 => ?_
  · have e0 : bal = 2 := of_decide_eq_true hb2
    subst e0
    exact s_ret (ev_greatest (value := fun i => -((bk i).outstanding : Int)) (ev_var rfl) (sq_of (((e1.trans e2).trans e3) _ _ hc)) (el_lcA (K := K) l (fun i => V.ref (β i)) (fun i => V.int (-((bk i).outstanding : Int))) (ev_var rfl) (sq_of (((e1.trans e2).trans e3) _ _ hc)) (by omega) (fun _ => rfl)
      fun x hx H4 e4 => ev_un (rB_outstanding T (ev_var rfl) ((hb x hx).ex (((e1.trans e2).trans e3).trans e4))) ru_neg) hi) fun H4 e4 => k H4 (((e1.trans e2).trans e3).trans e4)
  · have h0 := of_decide_eq_false hb0
    have h1 := of_decide_eq_false hb1
    have h2 := of_decide_eq_false hb2
    have hi2 : Kp423.firstGreatest l (fun i => (Kp423.hashOf key i : Int)) = some i := by
      unfold Hm.pick at hi
      split at hi
      · exact absurd rfl h0
      · exact absurd rfl h1
      · exact absurd rfl h2
      · exact hi
    exact s_ret (ev_greatest (value := fun i => (Kp423.hashOf key i : Int)) (ev_var rfl) (sq_of (((e1.trans e2).trans e3) _ _ hc)) (el_lcA (K := K) l (fun i => V.ref (β i)) (fun i => V.int (Kp423.hashOf key i : Int)) (ev_var rfl) (sq_of (((e1.trans e2).trans e3) _ _ hc)) (by omega) (fun _ => rfl)
      fun x hx H4 e4 => ev_call (ea_cons (ev_var rfl) (ea_cons (rB_number T (ev_var rfl) ((hb x hx).ex (((e1.trans e2).trans e3).trans e4))) ea_nil)) (spV_of fun H5 e5 Q E r => ⟨_, _, rfl, key, x, rfl, rfl, r⟩)) hi2) fun H4 e4 => k H4 (((e1.trans e2).trans e3).trans e4)
/-! ### the weights move -/
def shiftB (l : List Nat) (bk : Nat → Kp423.Backend) (ch i : Nat) : Kp423.Backend := { bk i with current := (bk i).current + (bk i).weight - (if i = ch then (((l.map fun i => (bk i).weight).sum : Nat) : Int) else 0) }
def stepB (bk : Nat → Kp423.Backend) (d : List Nat) (i : Nat) : Kp423.Backend := if i ∈ d then { bk i with current := (bk i).current + (bk i).weight } else bk i
def spShift (K : PySem.W.Frag) : Sp := sp2 fun x y H Q _ => ∃ (c : Addr) (l : List Nat) (β : Nat → Addr) (bk : Nat → Kp423.Backend) (ch : Nat), x = .ref c ∧ y = .ref (β ch) ∧ H c = some (.lst (baL l β)) ∧ Bas K H l β bk ∧ l.length ≤ 1000 ∧ l.Nodup ∧ ch ∈ l ∧
  ∀ H', Bas K H' l β (shiftB l bk ch) → (∀ a o, H a = some o → (∀ i ∈ l, a ≠ β i) → H' a = some o) → Q .non H'
theorem sum_cast (l : List Nat) (f : Nat → Nat) : (l.map fun i => (f i : Int)).sum = ((l.map f).sum : Nat) := by
  induction l with
  | nil => rfl
  | cons a r ih => simp [ih]
theorem sc_shift_weights : FnScope ["candidates", "chosen", "backend"] ["candidates", "chosen"] (defScope s_shift_weights) := ⟨rfl, rfl, rfl, by decide +kernel, rfl, by decide +kernel, by decide +kernel⟩
theorem ok_shift_weights (T : Tx K mg) : Ok P w K mg base CX0 1 (He.ga K "shift_weights") ["candidates", "chosen"] (spShift K) := by
  obtain ⟨fd, F0⟩ := T.def_ 9 (d := d_shift_weights) rfl
  have F : FunD K "shift_weights" "shift_weights" (defArgs s_shift_weights) (defBody s_shift_weights) (defScope s_shift_weights) [] [] (He.ga K "shift_weights") fd := F0
  refine ⟨fd, F.ok sc_shift_weights sp2_len (fun cdv A outer s H vs Q E hr h => ?_), F.kp, F.bindsN fun _ _ _ _ _ _ us hl => match us, hl with | [_, _], _ => rfl⟩
  refine ⟨_, PSs.nox (pss_cons (ps_for PassesOwn.never rfl (pi_list (pv 0)) (pg_name (i := 2) sc_shift_weights.nd rfl (Or.inl rfl)) (pss_one (ps_fld (pv 2) (pe_op op_add (pe_fld (pv 2) rfl) (pe_fld (pv 2) rfl)) rfl))) (pss_one (ps_fld (pv 1) (pe_op op_sub (pe_fld (pv 1) rfl) (pe_callB (cr_sum rfl) rfl T.b_sum (by decide +kernel) (pa_cons (pe_lc (own := [("backend", 2)]) (g := (gName 2)) (tt := tYes) (te := (tFld K (tVar 2) "weight")) rfl sc_shift_weights.nd (pi_list (pv 0)) (blkOk_by (own := [("backend", 2)]) (N := ["candidates", "chosen", "backend"]) (sc := defScope s_shift_weights) (by decide +kernel)) (fun _ _ _ _ _ => by exact (pg_name (i := 2) sc_shift_weights.nd rfl (Or.inl rfl))) (fun _ _ _ _ _ => by exact pts_nil) (fun _ _ _ _ _ => by exact (pe_fld (pv 2) rfl))) pa_nil))) rfl))), ?_⟩
  obtain ⟨_, _, rfl, c, l, β, bk, ch, rfl, rfl, hc, hb, hz, hN, hch, k⟩ := h
  have ap : ∀ {H' : Hp} {b' : Nat → Kp423.Backend}, Bas K H' l β b' → ∀ i ∈ l, ∀ j ∈ l, i ≠ j → β i ≠ β j := fun h i hi j hj n => ba_apart (h i hi) (h j hj) n
  have nc : ∀ i ∈ l, c ≠ β i := fun i hi => by
    obtain ⟨dx, q⟩ := hb i hi
    exact ne_of hc q (by intro z; cases z)
  refine q_forLn (xs := baL l β) (ev_var rfl) (sq_of hc) (fun n σ' H' => ∃ v, σ' = [some (.ref c), some (.ref (β ch)), v] ∧ Bas K H' l β (stepB bk (l.take n)) ∧ (∀ a o, H a = some o → (∀ i ∈ l, a ≠ β i) → H' a = some o)) ?_ ?_ ?_ ?_
  · exact fun H1 e1 => ⟨none, rfl, fun i hi => by
      unfold stepB
      rw [if_neg (by simp)]
      exact (hb i hi).ex e1, fun a o q _ => e1 _ _ q⟩
  · rintro n _ H1 _ ⟨v, rfl, h1, h2⟩
    exact sq_of (h2 c _ hc nc)
  · rintro n x _ H1 hi ⟨v, rfl, h1, h2⟩
    rw [List.getElem?_map] at hi
    cases hx : l[n]? with
    | none => rw [hx] at hi; cases hi
    | some i =>
      rw [hx] at hi
      cases hi
      have hil := List.mem_of_getElem? hx
      have hnt : i ∉ l.take n := fun hm => by
        obtain ⟨m, hm1, hm2⟩ := List.getElem_of_mem hm
        rw [List.length_take] at hm1
        have e1 : l[m]? = some i := by
          rw [List.getElem_take] at hm2
          rw [List.getElem?_eq_getElem (by omega), hm2]
        have := nd_ix hN e1 hx
        omega
      have hbi := h1 i hil
      have eb : stepB bk (l.take n) i = bk i := if_neg hnt
      rw [eb] at hbi
      refine s_ba (b2 := { bk i with current := (bk i).current + (bk i).weight }) T (ev_op (rB_current T (ev_var rfl) hbi) (rB_weight T (ev_var rfl) hbi) rv_I0) (ev_var rfl) hbi T.n_Backend_current rfl fun H2 b2 => ⟨some (.ref (β i)), rfl, fun j hj => ?_, fun a o q na => b2.2 a o (h2 a o q na) (na i hil)⟩
      have et : l.take (n + 1) = l.take n ++ [i] := Hm.take_more hx
      by_cases hji : j = i
      · subst hji
        have : stepB bk (l.take (n + 1)) j = { bk j with current := (bk j).current + (bk j).weight } := if_pos (by rw [et]; simp)
        rw [this]
        exact b2.1
      · have e2 : stepB bk (l.take (n + 1)) j = stepB bk (l.take n) j := by
          unfold stepB
          rw [et]
          simp [hji]
        rw [e2]
        obtain ⟨dx, q⟩ := h1 j hj
        exact ⟨dx, b2.2 _ _ q (ap h1 j hj i hil hji)⟩
  · rintro _ H1 ⟨v, rfl, h1, h2⟩
    rw [List.length_map, List.take_length] at h1
    have hcc := h1 ch hch
    have e0 : ∀ i ∈ l, stepB bk l i = { bk i with current := (bk i).current + (bk i).weight } := fun i hi => if_pos hi
    rw [e0 ch hch] at hcc
    refine s_ba (b2 := shiftB l bk ch ch) T (ev_op (rB_current T (ev_var rfl) hcc) (ev_sumN (K := K) (ns := l.map fun i => ((bk i).weight : Int)) ?_) rv_I0) (ev_var rfl) hcc T.n_Backend_current ?_ fun H2 b2 => k H2 (fun j hj => ?_) fun a o q na => b2.2 a o (h2 a o q na) (na ch hch)
    · rw [List.map_map]
      refine el_lcA (K := K) l (fun i => V.ref (β i)) (fun i => V.int ((bk i).weight : Int)) (ev_var rfl) (sq_of (h2 c _ hc nc)) (by omega) (fun _ => rfl) fun x hx H3 e3 => ?_
      have hbx := (h1 x hx).ex e3
      rw [e0 x hx] at hbx
      exact rB_weight (b := { bk x with current := (bk x).current + (bk x).weight }) T (ev_var rfl) hbx
    · rw [sum_cast]
      unfold shiftB
      rw [if_pos rfl]
      rfl
    · by_cases hji : j = ch
      · subst hji
        exact b2.1
      · have e2 : shiftB l bk ch j = stepB bk l j := by
          rw [e0 j hj]
          unfold shiftB
          rw [if_neg hji, Int.sub_zero]
        rw [e2]
        obtain ⟨dx, q⟩ := h1 j hj
        exact ⟨dx, b2.2 _ _ q (ap h1 j hj ch hch hji)⟩
/-! ### the ranking -/
def spRanked (K : PySem.W.Frag) : Sp := sp2 fun x y H Q _ => ∃ (c : Addr) (l : List Nat) (β : Nat → Addr) (bk : Nat → Kp423.Backend) (key : Nat) (m : List Nat), x = .ref c ∧ y = .int (key : Int) ∧ SqL K H c (baL l β) ∧ Bas K H l β bk ∧ l.length ≤ 1000 ∧
  Hm.Ranked key m ∧ m.Perm l ∧ RetL (m.map fun (i : Nat) => V.int (i : Int)) H Q
/-- a pair's two ints, read off the heap -/
def keyOf (H : Hp) (x : V) : Int × Int := match x with
  | .ref t => (match H t with
    | some (.tup [.int i, .int j]) => (i, j)
    | _ => (0, 0))
  | _ => (0, 0)
theorem keyOf_at {H : Hp} {t : Addr} {i j : Int} (h : H t = some (.tup [.int i, .int j])) : keyOf H (.ref t) = (i, j) := by
  unfold keyOf
  dsimp only
  rw [h]
theorem x_cb1 {r : List V → Hp → VK → Prop} {tl : TE} {σ : L2.St} {H : Hp} {Q : VK} (h : tl σ H fun x H1 => r [x] H1 Q) : tCB r (tCons tl tNil) σ H Q := h
theorem tups_refs {α : Type} {f : α → List V} {H : Hp} : ∀ {l : List α} {xs : List V}, Tups f l H xs → ∃ ts : List Addr, xs = ts.map V.ref ∧ Paired (fun t u => H t = some (.tup (f u))) ts l
  | _, _, .nil => ⟨[], rfl, .nil⟩
  | _, _, .cons r rs => by
    obtain ⟨t, rfl, ht⟩ := r
    obtain ⟨ts, rfl, p⟩ := tups_refs rs
    exact ⟨t :: ts, rfl, .cons ht p⟩
theorem tups_at {α : Type} {f : α → List V} {H : Hp} : ∀ {l : List α} {xs : List V}, Tups f l H xs → ∀ x ∈ xs, ∃ u ∈ l, ∃ t, x = V.ref t ∧ H t = some (.tup (f u))
  | _, _, .nil, x, hx => absurd hx (by simp)
  | _, _, .cons r rs, x, hx => by
    rcases List.mem_cons.mp hx with e | e
    · obtain ⟨t, e2, ht⟩ := r
      exact ⟨_, List.mem_cons_self, t, e.trans e2, ht⟩
    · obtain ⟨u, hu, z⟩ := tups_at rs x e
      exact ⟨u, List.mem_cons_of_mem _ hu, z⟩
theorem keys_of {key : Nat} {H : Hp} : ∀ {l : List Nat} {xs : List V}, Tups (fun i => [V.int (-(Kp423.hashOf key i : Int)), V.int (i : Int)]) l H xs → xs.map (keyOf H) = l.map fun i => (-(Kp423.hashOf key i : Int), (i : Int))
  | _, _, .nil => rfl
  | _, _, .cons r rs => by
    obtain ⟨t, rfl, ht⟩ := r
    rw [List.map_cons, List.map_cons, keyOf_at ht, keys_of rs]
theorem srtd_ranked {key : Nat} : ∀ {m : List Nat} {ys : List V} {k : V → Int × Int}, ys.map k = m.map (fun i => (-(Kp423.hashOf key i : Int), (i : Int))) → SrtO.Srtd (ltP k) ys → m.Nodup → Hm.Ranked key m
  | [], _, _, _, _, _ => List.Pairwise.nil
  | i :: r, [], _, h, _, _ => by simp at h
  | i :: r, y :: ys, k, h, hs, hN => by
    rw [List.map_cons, List.map_cons] at h
    obtain ⟨h1, h2⟩ := List.cons.inj h
    obtain ⟨s1, s2⟩ := List.pairwise_cons.mp hs
    obtain ⟨n1, n2⟩ := List.nodup_cons.mp hN
    refine List.pairwise_cons.mpr ⟨fun j hj => ?_, srtd_ranked h2 s2 n2⟩
    have hm : (-(Kp423.hashOf key j : Int), (j : Int)) ∈ ys.map k := by
      rw [h2]
      exact List.mem_map.mpr ⟨j, hj, rfl⟩
    obtain ⟨z, hz, ez⟩ := List.mem_map.mp hm
    have a := s1 z hz
    have a2 := SrtO.lexB_no.mp (show SrtO.lexB (k z) (k y) = false from a)
    rw [ez, h1] at a2
    simp only at a2
    have hne : i ≠ j := fun e => n1 (e ▸ hj)
    omega
theorem ranked_nodup {key : Nat} : ∀ {m : List Nat}, Hm.Ranked key m → m.Nodup
  | [], _ => List.nodup_nil
  | i :: r, h => by
    obtain ⟨h1, h2⟩ := List.pairwise_cons.mp h
    refine List.nodup_cons.mpr ⟨fun hi => ?_, ranked_nodup h2⟩
    have := h1 i hi
    omega
theorem sc_ranked : FnScope ["backends", "key", "pairs", "backend", "pair"] ["backends", "key"] (defScope s_ranked) := ⟨rfl, rfl, rfl, by decide +kernel, rfl, by decide +kernel, by decide +kernel⟩
theorem ok_ranked (T : Tx K mg) : Ok P w K mg base CX0 3 (He.ga K "ranked") ["backends", "key"] (spRanked K) := by
  obtain ⟨fd, F0⟩ := T.def_ 10 (d := d_ranked) rfl
  have F : FunD K "ranked" "ranked" (defArgs s_ranked) (defBody s_ranked) (defScope s_ranked) [] [] (He.ga K "ranked") fd := F0
  refine ⟨fd, F.ok sc_ranked sp2_len (fun cdv A outer s H vs Q E hr h => ?_), F.kp, F.bindsN fun _ _ _ _ _ _ us hl => match us, hl with | [_, _], _ => rfl⟩
  refine ⟨_, PSs.nox (pss_cons (ps_set (i := 2) sc_ranked.nd rfl (Or.inl rfl) (pe_callB cr_sortedPO rfl T.b_sorted (by decide +kernel) (pa_cons (pe_lc (own := [("backend", 3)]) (g := (gName 3)) (tt := tYes) (te := (tTup (tCons (tUn (rU fun i => .int (-i)) (tCall spHash [] E0 (tCons (tVar 1) (tCons (tFld K (tVar 3) "number") tNil)))) (tCons (tFld K (tVar 3) "number") tNil)))) rfl sc_ranked.nd (pi_list (pv 0)) (blkOk_by (own := [("backend", 3)]) (N := ["backends", "key", "pairs", "backend", "pair"]) (sc := defScope s_ranked) (by decide +kernel)) (fun _ _ _ _ _ => by exact (pg_name (i := 3) sc_ranked.nd rfl (Or.inl rfl))) (fun _ _ _ _ _ => by exact pts_nil) (fun _ _ _ _ _ => by exact (pe_tup (pa_cons (pe_un un_neg (pe_callO (ok_key_hash T) (hr.mono (by decide)) rfl T.g_key_hash pass0 (pa_cons (pv 1) (pa_cons (pe_fld (pv 3) rfl) pa_nil)))) (pa_cons (pe_fld (pv 3) rfl) pa_nil))))) pa_nil))) (pss_one (ps_ret (pe_lc (own := [("pair", 4)]) (g := (gName 4)) (tt := tYes) (te := (tOp (rIxT K) (tVar 4) (tC (.int 1)))) rfl sc_ranked.nd (pi_list (pv 2)) (blkOk_by (own := [("pair", 4)]) (N := ["backends", "key", "pairs", "backend", "pair"]) (sc := defScope s_ranked) (by decide +kernel)) (fun _ _ _ _ _ => by exact (pg_name (i := 4) sc_ranked.nd rfl (Or.inl rfl))) (fun _ _ _ _ _ => by exact pts_nil) (fun _ _ _ _ _ => by exact (pe_ix ix_tup (pv 4) pe_int (fun _ _ => rfl))))))), ?_⟩
  obtain ⟨_, _, rfl, c, l, β, bk, key, m, rfl, rfl, hc, hb, hz, hr2, hp, k⟩ := h
  refine s_seq (s_asgX (x_cb1 (ep_lcU (K := K) l (fun i => V.ref (β i)) (fun i => [V.int (-(Kp423.hashOf key i : Int)), V.int (i : Int)]) (ev_var rfl) hc (by omega) (fun _ => rfl) (fun x hx H1 e1 => ?_) H (Ex.refl H) _ fun p H1 xs hp1 e1 h1 ht => ?_)))
  · have hbx := (hb x hx).ex e1
    exact eu_tup (ea_cons (ev_un (ev_call (ea_cons (ev_var rfl) (ea_cons (rB_number T (ev_var rfl) hbx) ea_nil)) (spV_of fun H5 e5 Q E r => ⟨_, _, rfl, key, x, rfl, rfl, r⟩)) ru_neg) (ea_cons (rB_number T (ev_var rfl) hbx) ea_nil)) (by show 2 ≤ 100000; decide)
  · refine ⟨p, xs, keyOf H1, rfl, sq_of h1, fun x hx => ?_, fun ys q hs hst hq => ?_⟩
    · obtain ⟨u, _, t, rfl, ht2⟩ := tups_at ht x hx
      refine ⟨t, rfl, ?_⟩
      rw [keyOf_at ht2]
      exact ht2
    · have hk := keys_of ht
      have hkp : (ys.map (keyOf H1)).Perm (l.map fun i => (-(Kp423.hashOf key i : Int), (i : Int))) := by
        rw [← hk]
        exact hst.perm.map _
      obtain ⟨m2, e2, p2⟩ : ∃ m2 : List Nat, ys.map (keyOf H1) = m2.map (fun i => (-(Kp423.hashOf key i : Int), (i : Int))) ∧ m2.Perm l := by
        refine ⟨(ys.map (keyOf H1)).map fun z => z.2.toNat, ?_, ?_⟩
        · rw [List.map_map]
          refine (List.map_congr_left fun z hz => ?_).symm.trans (List.map_id _) |>.symm
          obtain ⟨i, _, rfl⟩ := List.mem_map.mp (hkp.mem_iff.mp hz)
          simp
        · have := hkp.map fun z : Int × Int => z.2.toNat
          rw [List.map_map] at this
          simpa [Function.comp_def] using this
      have hm2 : m2 = m := Hm.ranked_unique (srtd_ranked e2 hs (p2.nodup_iff.mpr (hp.nodup_iff.mp (ranked_nodup hr2)))) hr2 (p2.trans hp.symm)
      subst hm2
      have tu : ∀ y ∈ ys, ∃ t, y = V.ref t ∧ upd H1 q (.lst ys) t = some (.tup [.int (keyOf H1 y).1, .int (keyOf H1 y).2]) := fun y hy => by
        obtain ⟨u, _, t, rfl, ht2⟩ := tups_at ht y (hst.perm.mem_iff.mp hy)
        refine ⟨t, rfl, ?_⟩
        rw [upd_ne (ne_of_none ht2 hq), keyOf_at ht2]
        exact ht2
      dsimp only
      refine s_retL (xs := m2.map fun (i : Nat) => V.int (i : Int)) ?_ fun p3 H3 hp3 e3 h3 => k p3 H3 (fresh_back (e1.trans (Ex.new hq)) hp3) ((e1.trans (Ex.new hq)).trans e3) h3
      have hmap : ys.map (fun y => V.int (keyOf H1 y).2) = m2.map fun (i : Nat) => V.int (i : Int) := by
        have := congrArg (List.map fun z : Int × Int => V.int z.2) e2
        rw [List.map_map, List.map_map] at this
        exact this
      rw [← hmap]
      refine el_lcA (K := K) ys (fun y => y) (fun y => V.int (keyOf H1 y).2) (ev_var rfl) (sq_of ?_) ?_ (fun _ => rfl) fun y hy H4 e4 => ?_
      · rw [List.map_id']
        exact upd_same
      · have a1 := hst.len
        have a2 := ht.len
        omega
      · obtain ⟨t, rfl, ht2⟩ := tu y hy
        exact ev_op (ev_var rfl) ev_c (rv_ixT (st_of (e4 _ _ ht2)) (atI_nat (j := 1) rfl))
end
end Hc
namespace Hc
open PySem PySem.Spec PyProof.Rows L2 Evl
/-! ### zip of a list and a tuple -/
/-- the list at a and the tuple at b, the items in new pairs -/
def ItzM (K : PySem.W.Frag) (a b : Addr) : It :=
  ⟨fun i H => ∃ (xs ys : List V) (x y : V), SqL K H a xs ∧ SqT K H b ys ∧ xs[i]? = some x ∧ ys[i]? = some y,
    fun i H v H' => ∃ T x y, v = .ref T ∧ H T = none ∧ H' = upd H T (.tup [x, y]) ∧ (∀ xs, SqL K H a xs → xs[i]? = some x) ∧ ∀ ys, SqT K H b ys → ys[i]? = some y,
    fun i H => ∃ xs ys : List V, SqL K H a xs ∧ SqT K H b ys ∧ i ≤ xs.length ∧ i ≤ ys.length ∧ (i = xs.length ∨ i = ys.length)⟩
theorem turn_zipM {P : Program} {w : World} {K : PySem.W.Frag} {elts : List Expr} {kk : Nat} {tpos : Pos} {a b z TI TO i1 i2 : Addr} (D : ZipSep2 z TI TO i1 i2 [i1, a] [i2, b]) (h1a : a ≠ i1) (h2b : b ≠ i2) :
    Turn P w K (.Tuple elts kk tpos) (ItzM K a b) [z, TI, TO, i1, i2] z (fun i h => IsZip h z TI TO .none ∧ IsPair h TI (.ref i1) (.ref i2) ∧ (∃ x y, IsPair h TO x y) ∧ h.IsListIter i1 a i ∧ h.IsTupleIter i2 b i) where
  mem := by simp
  obj := fun i h st c hc => by
    obtain ⟨hz, hTI, ⟨x, y, hTO⟩, ⟨o1, e1, _, d1⟩, ⟨o2, e2, _, d2⟩⟩ := st
    have q5 : c = z ∨ c = TI ∨ c = TO ∨ c = i1 ∨ c = i2 := by simpa using hc
    rcases q5 with q | q | q | q | q
    · exact q ▸ ⟨_, hz, fun v q => nomatch q⟩
    · exact q ▸ ⟨_, hTI, fun v q => nomatch q⟩
    · exact q ▸ ⟨_, hTO, fun v q => nomatch q⟩
    · exact q ▸ ⟨o1, e1, fun v q => by rw [d1] at q; cases q⟩
    · exact q ▸ ⟨o2, e2, fun v q => by rw [d2] at q; cases q⟩
  keep := fun i h g st k => by
    obtain ⟨hz, hTI, ⟨x, y, hTO⟩, h1, h2⟩ := st
    have kk : ∀ c, c ∈ [z, TI, TO, i1, i2] → ∀ o, h.get? c = some o → g.get? c = some o := k
    exact ⟨kk z (by simp) _ hz, kk TI (by simp) _ hTI, ⟨x, y, kk TO (by simp) _ hTO⟩, h1.at (kk i1 (by simp)), h2.at (kk i2 (by simp))⟩
  item := by
    intro X hP hw hK hc i pins s σ H E I hf st hg
    subst hP hw hK
    obtain ⟨hz, hTI, ⟨x0, y0, hTO⟩, h1, h2⟩ := st
    obtain ⟨xs, ys, x, y, hqx, hqy, hx, hy⟩ := hg
    obtain ⟨its, rv, p, _⟩ := I.list hqx
    obtain ⟨its2, rv2, p2, _⟩ := I.tuple hqy
    obtain ⟨u, hu, ru⟩ := rv.get hx
    obtain ⟨u2, hu2, ru2⟩ := rv2.get hy
    have hh : X.A.in1.handled = none := I.ok.hd hc
    have hzl : z < s.heap.objs.size := Heap.lt_size hz
    have hi1 : i < its.toArray.size := by
      have := (List.getElem?_eq_some_iff.mp hu).1
      simpa using this
    have hi2 : i < its2.toArray.size := by
      have := (List.getElem?_eq_some_iff.mp hu2).1
      simpa using this
    refine wpAny_pyNext_zipD2_item D (Draws.list hh i1 a h1a its.toArray) (Draws.tuple hh i2 b h2b its2.toArray) hz hTI hTO ⟨h1, p.isList⟩ ⟨h2, p2⟩ hi1 hi2 fun v1 v2 g tk hv1 hv2 gz gTO g1 g2 gT gsz gk => ?_
    have ev1 : v1 = u := by
      have : its.toArray[i]? = some u := by simpa using hu
      rw [this] at hv1
      exact (Option.some.inj hv1).symm
    have ev2 : v2 = u2 := by
      have : its2.toArray[i]? = some u2 := by simpa using hu2
      rw [this] at hv2
      exact (Option.some.inj hv2).symm
    subst ev1 ev2
    refine ⟨_, rfl, wpAny_letOwnedTupleGo_zip (s := { s with heap := g, toks := tk }) gz fun g2' gz2 sb => ?_⟩
    have gT2 : g2'.get? s.heap.objs.size = some { cls := .type "tuple", data := .seq #[v1, v2] } := (sb.2 _ (Nat.ne_of_gt hzl)).trans gT
    have new : ObjOk X.prog X.w (upd H s.heap.objs.size (.tup [x, y])) g2' s.heap.objs.size (.tup [x, y]) :=
      ⟨by show 2 ≤ sizeLine; decide, [v1, v2], .cons ru (.cons ru2 .nil), ⟨_, gT2, rfl, _, rfl⟩⟩
    have stay : ∀ c o, c ∉ [z, TI, TO, i1, i2] → s.heap.get? c = some o → g2'.get? c = some o := fun c o hn q => by
      simp only [List.mem_cons, List.not_mem_nil, or_false, not_or] at hn
      exact (sb.2 c hn.1).trans (gk c o hn.1 hn.2.2.1 hn.2.2.2.1 hn.2.2.2.2 q)
    have I1 : Inv X pins σ (upd H s.heap.objs.size (.tup [x, y])) { s with heap := g2', toks := tk } := I.turnedNew (t' := tk) stay hf (Nat.le_refl _) new
    refine ⟨.ref s.heap.objs.size, _, I1, rfl, ⟨_, x, y, rfl, I.hok.fresh (Nat.le_refl _), rfl, fun l hl => by rw [I.list_inj hl hqx]; exact hx, fun l hl => by rw [I.tuple_inj hl hqy]; exact hy⟩, ⟨gz2, ?_, ⟨v1, v2, ?_⟩, ?_, ?_⟩, fun c hcm => ?_⟩
    · exact (sb.2 _ D.TIz).trans (gk _ _ D.TIz D.TITO D.TIi1 D.TIi2 hTI)
    · exact (sb.2 _ D.TOz).trans gTO
    · exact g1.1.at fun o q => (sb.2 _ (Ne.symm D.zi1)).trans q
    · exact g2.1.at fun o q => (sb.2 _ (Ne.symm D.zi2)).trans q
    · have hlt : c < s.heap.objs.size := by
        have q5 : c = z ∨ c = TI ∨ c = TO ∨ c = i1 ∨ c = i2 := by simpa using hcm
        rcases q5 with q | q | q | q | q
        · exact q ▸ hzl
        · exact q ▸ Heap.lt_size hTI
        · exact q ▸ Heap.lt_size hTO
        · obtain ⟨_, e1, _⟩ := h1
          exact q ▸ Heap.lt_size e1
        · obtain ⟨_, e2, _⟩ := h2
          exact q ▸ Heap.lt_size e2
      rw [upd_ne (Nat.ne_of_lt hlt)]
      exact (hf c hcm).1
  done := by
    intro X hP hw hK hc i pins s σ H E I hf st hg
    subst hP hw hK
    obtain ⟨hz, hTI, ⟨x0, y0, hTO⟩, h1, h2⟩ := st
    obtain ⟨xs, ys, hqx, hqy, l1, l2, hend⟩ := hg
    obtain ⟨its, rv, p, _⟩ := I.list hqx
    obtain ⟨its2, rv2, p2, _⟩ := I.tuple hqy
    have hh : X.A.in1.handled = none := I.ok.hd hc
    have n1 : its.toArray.size = xs.length := by rw [List.size_toArray, ← rv.length]
    have n2 : its2.toArray.size = ys.length := by rw [List.size_toArray, ← rv2.length]
    refine wpAny_pyNext_zipD2_end D (Draws.list hh i1 a h1a its.toArray) (Draws.tuple hh i2 b h2b its2.toArray) hz hTI hTO ⟨h1, p.isList⟩ ⟨h2, p2⟩ (by omega) (by omega) (by omega) fun g tk gk => ⟨rfl, ?_⟩
    refine I.turnedL (t' := tk) (ch := [z, TI, TO, i1, i2]) (fun c o hn q => ?_) hf
    simp only [List.mem_cons, List.not_mem_nil, or_false, not_or] at hn
    exact gk c o hn.1 hn.2.2.1 hn.2.2.2.1 hn.2.2.2.2 q
  self := fun A i s Q E st h => wpAny_pyIter_zip st.1 h
def iZipM (K : PySem.W.Frag) (ta : TA) : TI := fun σ H R => ta σ H fun vs H1 => ∃ a b xs ys, vs = [.ref a, .ref b] ∧ SqL K H1 a xs ∧ SqT K H1 b ys ∧ R (ItzM K a b) H1
theorem pi_zipM {X : Cx} {e e2 : Expr} {ta : TA} {p pos tpos : Pos} {elts : List Expr} {kk : Nat} (hg : Gl X "zip") (hm : X.mg "zip" = none) (ha : PA X [e, e2] ta)
    (hs : starEach [e, e2] X.env = (false, eval e X.env) :: starEach [e2] X.env := by rfl) (hpl : (backTo pos (starEach [e2] X.env)).any (·.1) = false := by rfl) :
    PI X (.Tuple elts kk tpos) (.Call (.Name "zip" p) [e, e2] [] pos) (iZipM X.K ta) := by
  refine ⟨fun pins s σ H R I h => ?_⟩
  refine Call_ (ld_blt I hg hm PyProof.Rows.boot_zip (PyProof.Rows.callWith_type1 (thn (ha.run pos pins s σ H _ I h) fun us s1 hh => ?_) hs hpl))
  obtain ⟨vs, H1, I1, r1, a, b, xs, ys, ex, hqx, hqy, q⟩ := hh
  subst ex
  cases r1 with
  | cons r rr =>
    cases rr with
    | cons r2 rr =>
      cases rr
      cases r
      cases r2
      obtain ⟨its, rv, p1, _⟩ := I1.list hqx
      obtain ⟨its2, rv2, p2, _⟩ := I1.tuple hqy
      have la : a < s1.heap.objs.size := p1.lt
      have lb : b < s1.heap.objs.size := by
        obtain ⟨o, e, _⟩ := id p2
        exact Heap.lt_size e
      refine zip_begins2 (begins_list a its.toArray) (begins_tuple b its2.toArray) p1.isList p2 fun g gz gTI gTO g1 g2 gsz gk => wpAny_pyIter_zip gz ?_
      have I2 : Inv X pins σ H1 { s1 with heap := g } := I1.kept (t' := s1.toks) gk
      have sep : ZipSep2 (s1.heap.objs.size + 4) (s1.heap.objs.size + 2) (s1.heap.objs.size + 3) s1.heap.objs.size (s1.heap.objs.size + 1) [s1.heap.objs.size, a] [s1.heap.objs.size + 1, b] :=
        zip_sep2 (fp1 := [a]) (fp2 := [b]) (fun c hc => by simp at hc; rw [hc]; exact la) (fun c hc => by simp at hc; rw [hc]; exact lb)
      refine ⟨s1.heap.objs.size + 4, [s1.heap.objs.size + 4, s1.heap.objs.size + 2, s1.heap.objs.size + 3, s1.heap.objs.size, s1.heap.objs.size + 1], _, _, H1, rfl, I2, turn_zipM sep (Nat.ne_of_lt la) (Nat.ne_of_lt (Nat.lt_succ_of_lt lb)), ⟨gz, gTI, ⟨_, _, gTO⟩, ⟨_, g1, rfl, rfl⟩, ⟨_, g2, rfl, rfl⟩⟩, fun c hcm => ?_, q⟩
      have hle : s1.heap.objs.size ≤ c := by
        have q5 : c = s1.heap.objs.size + 4 ∨ c = s1.heap.objs.size + 2 ∨ c = s1.heap.objs.size + 3 ∨ c = s1.heap.objs.size ∨ c = s1.heap.objs.size + 1 := by simpa using hcm
        rcases q5 with z | z | z | z | z
        all_goals (rw [z]; first | exact Nat.le_add_right _ _ | exact Nat.le_refl _)
      exact I1.fpOk hle (I1.hok.fresh hle)
/-- a loop over it: both as they stood, the shorter one's turns -/
theorem for_zipM {K : PySem.W.Frag} {a b : Addr} {xs ys : List V} {g : TG} {tb : TS} {D : Ends} {σ : L2.St} {H : Hp} (Pv : Nat → L2.St → Hp → Prop) (h0 : Pv 0 σ H) (hq : ∀ i σ H, Pv i σ H → SqL K H a xs ∧ SqT K H b ys)
    (hs : ∀ (i : Nat) (x y : V) (T : Addr) (σ : L2.St) (H : Hp), xs[i]? = some x → ys[i]? = some y → Pv i σ H → H T = none → g (.ref T) σ (upd H T (.tup [x, y])) fun σ2 H2 => tb { D with nx := Pv (i + 1), ct := Pv (i + 1), bk := D.nx } σ2 H2)
    (hd : ∀ σ H, Pv (min xs.length ys.length) σ H → D.nx σ H) :
    ∃ W : Nat → Nat → L2.St → Hp → Prop, (∃ m, W 0 m σ H) ∧ ∀ i m σ H, W i m σ H →
      ((ItzM K a b).stop i H ∧ D.nx σ H) ∨ ((ItzM K a b).go i H ∧ ∃ N : L2.St → Hp → Prop, (∀ σ' H', N σ' H' → ∃ m', m' < m ∧ W (i + 1) m' σ' H') ∧ ∀ v H', (ItzM K a b).yld i H v H' → g v σ H' fun σ2 H2 => tb { D with nx := N, ct := N, bk := D.nx } σ2 H2) := by
  refine ⟨fun i m σ H => m = min xs.length ys.length - i ∧ i ≤ min xs.length ys.length ∧ Pv i σ H, ⟨_, rfl, Nat.zero_le _, h0⟩, ?_⟩
  rintro i m σ H ⟨rfl, hi, p⟩
  obtain ⟨qx, qy⟩ := hq i σ H p
  by_cases hlt : i < min xs.length ys.length
  · have hx : xs[i]? = some xs[i] := List.getElem?_eq_getElem (by omega)
    have hy : ys[i]? = some ys[i] := List.getElem?_eq_getElem (by omega)
    refine .inr ⟨⟨xs, ys, _, _, qx, qy, hx, hy⟩, Pv (i + 1), fun σ' H' p' => ⟨_, by omega, rfl, hlt, p'⟩, fun v H' y => ?_⟩
    obtain ⟨T, x1, y1, rfl, hT, rfl, f1, f2⟩ := y
    exact hs i x1 y1 T σ H (f1 xs qx) (f2 ys qy) p hT
  · have e : i = min xs.length ys.length := by omega
    subst e
    exact .inl ⟨⟨xs, ys, qx, qy, by omega, by omega, by omega⟩, hd σ H p⟩
end Hc
namespace Hc
open PySem PySem.Spec PyProof.Rows L2 Evl
section
variable {P : Program} {w : World} {K : PySem.W.Frag} {mg : Str → Option Value} {base : Heap}
/-! ### policies -/
def within (a b c : Int) : Bool := decide (b ≤ a) && decide (a ≤ c)
def spWithin : Sp := sp3 fun x y z H Q _ => ∃ a b c : Int, x = .int a ∧ y = .int b ∧ z = .int c ∧ RetV (.bl (within a b c)) H Q
theorem sc_is_within : FnScope ["value", "least", "greatest"] ["value", "least", "greatest"] (defScope s_is_within) := ⟨rfl, rfl, rfl, by decide +kernel, rfl, by decide +kernel, by decide +kernel⟩
theorem ok_is_within (T : Tx K mg) : Ok P w K mg base CX0 1 (He.ga K "is_within") ["value", "least", "greatest"] spWithin := by
  obtain ⟨fd, F0⟩ := T.def_ 11 (d := d_is_within) rfl
  have F : FunD K "is_within" "is_within" (defArgs s_is_within) (defBody s_is_within) (defScope s_is_within) [] [] (He.ga K "is_within") fd := F0
  refine ⟨fd, F.ok sc_is_within sp3_len (fun cdv A outer s H vs Q E hr h => ?_), F.kp, F.bindsN fun _ _ _ _ _ _ us hl => match us, hl with | [_, _, _], _ => rfl⟩
  refine ⟨_, PSs.nox (pss_one (ps_ret (pe_and (pe_cmpR op_le (pv 1) (pv 0) (nomark _)) (pe_one (pe_cmpR op_le (pv 0) (pv 2) (nomark _)))))), ?_⟩
  obtain ⟨_, _, _, rfl, a, b, c, rfl, rfl, rfl, k⟩ := h
  exact s_ret (ev_andV (ev_op (ev_var rfl) (ev_var rfl) rv_I0) fun _ => ev_op (ev_var rfl) (ev_var rfl) rv_I0) k
theorem ev_within {σ : L2.St} {H : Hp} {ta tb tc : TE} {E : XK} {a b c : Int} (ha : Ev ta σ H (.int a)) (hb : Ev tb σ H (.int b)) (hc : Ev tc σ H (.int c)) : Ev (tCall spWithin [] E (tCons ta (tCons tb (tCons tc tNil)))) σ H (.bl (within a b c)) :=
  ev_call (ea_cons ha (ea_cons hb (ea_cons hc ea_nil))) (spV_of fun H2 _ Q E r => ⟨_, _, _, rfl, a, b, c, rfl, rfl, rfl, r⟩)
def statusI (a : Int) : Bool := within a 0 16 || decide (a = 100)
def spStatus : Sp := sp1 fun x H Q _ => ∃ a : Int, x = .int a ∧ RetV (.bl (statusI a)) H Q
theorem eq_int (a b : Int) : decide (V.int a = V.int b) = decide (a = b) := decide_eq_decide.mpr ⟨fun z => by injection z, fun z => by rw [z]⟩
theorem sc_is_status : FnScope ["value"] ["value"] (defScope s_is_status) := ⟨rfl, rfl, rfl, by decide +kernel, rfl, by decide +kernel, by decide +kernel⟩
theorem ok_is_status (T : Tx K mg) : Ok P w K mg base CX0 2 (He.ga K "is_status") ["value"] spStatus := by
  obtain ⟨fd, F0⟩ := T.def_ 12 (d := d_is_status) rfl
  have F : FunD K "is_status" "is_status" (defArgs s_is_status) (defBody s_is_status) (defScope s_is_status) [] [] (He.ga K "is_status") fd := F0
  refine ⟨fd, F.ok sc_is_status sp1_len (fun cdv A outer s H vs Q E hr h => ?_), F.kp, F.bindsN fun _ _ _ _ _ _ us hl => match us, hl with | [_], _ => rfl⟩
  refine ⟨_, PSs.nox (pss_one (ps_ret (pe_or (pe_callO (ok_is_within T) (hr.mono (by decide)) rfl T.g_is_within pass0 (pa_cons (pv 0) (pa_cons pe_int (pa_cons (pe_gi T.i_GREATEST_STATUS) pa_nil)))) (pe_one (pe_cmpR op_eq (pv 0) (pe_gi T.i_REFUSED_STATUS) (nomark _)))))), ?_⟩
  obtain ⟨_, rfl, a, rfl, k⟩ := h
  exact s_ret (ev_orV (ev_within (ev_var rfl) ev_c ev_c) fun _ => ev_is (ev_op (ev_var rfl) ev_c (rv_eq rfl)) (congrArg V.bl (eq_int a 100))) k
theorem ev_status {σ : L2.St} {H : Hp} {ta : TE} {E : XK} {a : Int} (ha : Ev ta σ H (.int a)) : Ev (tCall spStatus [] E (tCons ta tNil)) σ H (.bl (statusI a)) := ev_call (ea_cons ha ea_nil) (spV_of fun H2 _ Q E r => ⟨_, rfl, a, rfl, r⟩)
/-! the table of limits -/
theorem pair_ok {a : Addr} {lo hi : Int} (h : pairB K a lo hi = true) (H : Hp) : SqT K H a [.int lo, .int hi] := by
  unfold pairB at h
  cases q : K.lookup a with
  | none => rw [q] at h; cases h
  | some o =>
    obtain ⟨oc, od, dt, osl⟩ := o
    rw [q] at h
    cases oc with
    | type c =>
      cases dt with
      | seq its n =>
        obtain ⟨h1, h2⟩ := He.ba h
        obtain ⟨h3, h4⟩ := He.ba h2
        exact .inr ⟨_, its, n, q, congrArg Value.type (of_decide_eq_true h1), rfl, of_decide_eq_true h3, He.relAll_ok h4⟩
      | _ => cases h
    | _ => cases dt <;> cases h
theorem pairs_ok : ∀ {vs : List Value} {ls : List (Int × Int)}, pairsB K vs ls = true → ∃ ts : List Addr, vs = ts.map Value.ref ∧ Paired (fun (t : Addr) (q : Int × Int) => ∀ H, SqT K H t [.int q.1, .int q.2]) ts ls
  | [], [], _ => ⟨[], rfl, .nil⟩
  | [], _ :: _, h => by cases h
  | v :: vs, [], h => by cases v <;> cases h
  | v :: vs, q :: qs, h => by
    cases v with
    | ref a =>
      obtain ⟨h1, h2⟩ := He.ba (show (pairB K a q.1 q.2 && pairsB K vs qs) = true from h)
      obtain ⟨ts, rfl, p⟩ := pairs_ok h2
      exact ⟨a :: ts, rfl, .cons (pair_ok h1) p⟩
    | _ => cases h
theorem refs_vals : ∀ ts : List Addr, Vals (ts.map V.ref) (ts.map Value.ref)
  | [] => .nil
  | _ :: r => .cons rfl (refs_vals r)
theorem Tx.lim (T : Tx K mg) : ∃ ts : List Addr, (∀ H, SqT K H (He.ga K "LIMITS") (ts.map V.ref)) ∧ Paired (fun (t : Addr) (q : Int × Int) => ∀ H, SqT K H t [.int q.1, .int q.2]) ts limL := by
  have h := (He.ba T.parts.2.2).1
  unfold limB at h
  cases q : K.lookup (He.ga K "LIMITS") with
  | none => rw [q] at h; cases h
  | some o =>
    obtain ⟨oc, od, dt, osl⟩ := o
    rw [q] at h
    cases oc with
    | type c =>
      cases dt with
      | seq its n =>
        obtain ⟨h1, h2⟩ := He.ba h
        obtain ⟨h3, h4⟩ := He.ba h2
        obtain ⟨ts, e, p⟩ := pairs_ok h4
        refine ⟨ts, fun H => .inr ⟨_, its, n, q, congrArg Value.type (of_decide_eq_true h1), rfl, of_decide_eq_true h3, ?_⟩, p⟩
        rw [e]
        exact refs_vals ts
      | _ => cases h
    | _ => cases dt <;> cases h
theorem paired_at {α β : Type} {R : α → β → Prop} : ∀ {l : List α} {m : List β} {i : Nat} {x : α}, Paired R l m → l[i]? = some x → ∃ y, m[i]? = some y ∧ R x y
  | _, _, _, _, .nil, h => by simp at h
  | _, _, 0, _, .cons r _, h => by simp at h; subst h; exact ⟨_, rfl, r⟩
  | _, _, i + 1, x, .cons _ t, h => by
    obtain ⟨y, h1, h2⟩ := paired_at (i := i) t (by simpa using h)
    exact ⟨y, by simpa using h1, h2⟩
/-! are_parameters -/
def parOk (zs : List Int) : Bool := within zs.length 10 26 && ((zs.zip limL).all fun p => within p.1 p.2.1 p.2.2) && (zs.drop 10).all fun z => within z 1 16
def spPars (K : PySem.W.Frag) : Sp := sp1 fun x H Q _ => ∃ (a : Addr) (zs : List Int), x = .ref a ∧ SqL K H a (zs.map V.int) ∧ zs.length ≤ 30000 ∧ RetV (.bl (parOk zs)) H Q
theorem zip_at {zs : List Int} {ls : List (Int × Int)} {i : Nat} {z : Int} {q : Int × Int} (h1 : zs[i]? = some z) (h2 : ls[i]? = some q) : (zs.zip ls)[i]? = some (z, q) := List.getElem?_zip_eq_some.mpr ⟨h1, h2⟩
theorem sc_are_parameters : FnScope ["parameters", "value", "limits"] ["parameters"] (defScope s_are_parameters) := ⟨rfl, rfl, rfl, by decide +kernel, rfl, by decide +kernel, by decide +kernel⟩
theorem ok_are_parameters (T : Tx K mg) : Ok P w K mg base CX0 2 (He.ga K "are_parameters") ["parameters"] (spPars K) := by
  obtain ⟨fd, F0⟩ := T.def_ 13 (d := d_are_parameters) rfl
  have F : FunD K "are_parameters" "are_parameters" (defArgs s_are_parameters) (defBody s_are_parameters) (defScope s_are_parameters) [] [] (He.ga K "are_parameters") fd := F0
  refine ⟨fd, F.ok sc_are_parameters sp1_len (fun cdv A outer s H vs Q E hr h => ?_), F.kp, F.bindsN fun _ _ _ _ _ _ us hl => match us, hl with | [_], _ => rfl⟩
  refine ⟨_, PSs.nox (pss_cons (ps_if (pt_not (pt_val (pe_callO (ok_is_within T) (hr.mono (by decide)) rfl T.g_is_within pass0 (pa_cons (pe_callB call_len_seq rfl T.b_len (by decide +kernel) (pa_cons (pv 0) pa_nil)) (pa_cons (pe_callB call_len_seq rfl T.b_len (by decide +kernel) (pa_cons (pe_gr T.g_LIMITS) pa_nil)) (pa_cons (pe_op op_add (pe_callB call_len_seq rfl T.b_len (by decide +kernel) (pa_cons (pe_gr T.g_LIMITS) pa_nil)) (pe_gi T.i_MOST_RETRYABLE)) pa_nil)))))) (pss_one (ps_ret pe_bl)) pss_nil) (pss_cons (ps_for PassesOwn.never rfl (pi_zipM rfl T.b_zip (pa_cons (pv 0) (pa_cons (pe_gr T.g_LIMITS) pa_nil))) (pg_tup rfl (pgs_cons (pg_name (i := 1) sc_are_parameters.nd rfl (Or.inl rfl)) (pgs_cons (pg_name (i := 2) sc_are_parameters.nd rfl (Or.inl rfl)) pgs_nil))) (pss_one (ps_if (pt_not (pt_val (pe_callO (ok_is_within T) (hr.mono (by decide)) rfl T.g_is_within pass0 (pa_cons (pv 1) (pa_cons (pe_ix ix_tup (pv 2) pe_int (fun _ _ => rfl)) (pa_cons (pe_ix ix_tup (pv 2) pe_int (fun _ _ => rfl)) pa_nil)))))) (pss_one (ps_ret pe_bl)) pss_nil))) (pss_one (ps_ret (pe_callB (cr_all rfl) rfl T.b_all (by decide +kernel) (pa_cons (pe_lc (own := [("value", 1)]) (g := (gName 1)) (tt := tYes) (te := (tCall spWithin [] E0 (tCons (tVar 1) (tCons (tC (.int 1)) (tCons (tC (.int (16))) tNil))))) rfl sc_are_parameters.nd (pi_list (pe_slice sl_list (pv 0) (po_some (pe_callB call_len_seq rfl T.b_len (by decide +kernel) (pa_cons (pe_gr T.g_LIMITS) pa_nil))) po_none)) (blkOk_by (own := [("value", 1)]) (N := ["parameters", "value", "limits"]) (sc := defScope s_are_parameters) (by decide +kernel)) (fun _ _ _ _ _ => by exact (pg_name (i := 1) sc_are_parameters.nd rfl (Or.inl rfl))) (fun _ _ _ _ _ => by exact pts_nil) (fun _ _ _ _ _ => by exact (pe_callO (ok_is_within T) (hr.mono (by decide)) rfl T.g_is_within pass0 (pa_cons (pv 1) (pa_cons pe_int (pa_cons (pe_gi T.i_GREATEST_STATUS) pa_nil)))))) pa_nil)))))), ?_⟩
  obtain ⟨_, rfl, a, zs, rfl, ha, hz, k⟩ := h
  obtain ⟨ts, hT, hP⟩ := T.lim
  have lT : (ts.map V.ref).length = 10 := by
    rw [List.length_map, Paired.length hP]
    rfl
  have n1 : Ev (tCB (fun xs H Q => ∃ p ys, xs = [V.ref p] ∧ (SqL K H p ys ∨ SqT K H p ys) ∧ Q (.int (ys.length : Nat)) H) (tCons (tC (.ref (He.ga K "LIMITS"))) tNil)) [some (V.ref a), none, none] H (.int 10) := by
    have z := ev_lenT (K := K) (tl := tC (.ref (He.ga K "LIMITS"))) (σ := [some (V.ref a), none, none]) (H := H) ev_c (hT H)
    rw [lT] at z
    exact z
  have len0 := ev_lenL (K := K) (tl := tVar 0) (σ := [some (V.ref a), none, none]) (H := H) (ev_var rfl) ha
  rw [List.length_map] at len0
  refine q_when (b := !within zs.length 10 26) (et_not (et_B (ev_within len0 n1 (ev_op n1 ev_c rv_I0)))) (fun hb H1 e1 => ?_) fun hb H1 e1 => ?_
  · refine s_ret ev_c fun H2 e2 => ?_
    have e : parOk zs = false := by
      unfold parOk
      rw [show within zs.length 10 26 = false by simpa using hb]
      rfl
    have z := k H2 (e1.trans e2)
    rw [e] at z
    exact z
  have hlen : within zs.length 10 26 = true := by simpa using hb
  have h10 : 10 ≤ zs.length := by
    unfold within at hlen
    simp only [Bool.and_eq_true, decide_eq_true_eq] at hlen
    omega
  refine s_seq ⟨_, rfl, a, _, zs.map V.int, ts.map V.ref, rfl, ex_l e1 ha, hT H1, for_zipM (xs := zs.map V.int) (ys := ts.map V.ref) (fun i σ' H' => ∃ u v, σ' = [some (V.ref a), u, v] ∧ Ex H H' ∧ (((zs.zip limL).take i).all fun p => within p.1 p.2.1 p.2.2) = true) ?_ ?_ ?_ ?_⟩
  · exact ⟨none, none, rfl, e1, rfl⟩
  · rintro i _ H2 ⟨u, v, rfl, e2, _⟩
    exact ⟨ex_l e2 ha, hT H2⟩
  · rintro i x y t _ H2 hx hy ⟨u, v, rfl, e2, hall⟩ ht
    rw [List.getElem?_map] at hx hy
    cases cx : zs[i]? with
    | none => rw [cx] at hx; cases hx
    | some z =>
    rw [cx] at hx
    cases hx
    cases cy : ts[i]? with
    | none => rw [cy] at hy; cases hy
    | some t2 =>
    rw [cy] at hy
    cases hy
    obtain ⟨q, hq, hqT⟩ := paired_at hP cy
    have hzq := zip_at cx hq
    refine ⟨t, [.int z, .ref t2], rfl, st_of upd_same, rfl, _, _, rfl, _, _, rfl, rfl, ?_⟩
    refine s_when (b := !within z q.1 q.2) (et_not (et_B (ev_within (ev_var rfl) (ev_op (ev_var rfl) ev_c (rv_ixT (hqT _) (atI_nat (j := 0) rfl))) (ev_op (ev_var rfl) ev_c (rv_ixT (hqT _) (atI_nat (j := 1) rfl)))))) (fun hb H3 e3 => ?_) fun hb H3 e3 => ?_
    · refine s_ret ev_c fun H4 e4 => ?_
      have e : parOk zs = false := by
        unfold parOk
        have e5 : ((zs.zip limL).all fun p => within p.1 p.2.1 p.2.2) = false := List.all_eq_false.mpr ⟨_, List.mem_of_getElem? hzq, by
          show ¬ within z q.1 q.2 = true
          simpa using hb⟩
        rw [e5, Bool.and_false]
        rfl
      have z5 := k H4 ((e2.trans (Ex.new ht)).trans (e3.trans e4))
      rw [e] at z5
      exact z5
    · refine ⟨_, _, rfl, (e2.trans (Ex.new ht)).trans e3, ?_⟩
      rw [Hm.take_more hzq, List.all_append, hall]
      simpa using hb
  · rintro _ H2 ⟨u, v, rfl, e2, hall⟩
    rw [List.length_map, lT, Nat.min_eq_right h10] at hall
    have hfull : ((zs.zip limL).all fun p => within p.1 p.2.1 p.2.2) = true := by
      rw [← hall, List.take_of_length_le]
      rw [List.length_zip]
      have : limL.length = 10 := rfl
      omega
    dsimp only
    refine s_ret (v := .bl (parOk zs)) ?_ fun H3 e3 => k H3 (e2.trans e3)
    have e : parOk zs = ((zs.drop 10).map fun z => within z 1 16).all id := by
      unfold parOk
      rw [hlen, hfull, List.all_map]
      rfl
    rw [e]
    refine ev_allN ?_
    rw [List.map_map]
    have n2 : Ev (tCB (fun xs H Q => ∃ p ys, xs = [V.ref p] ∧ (SqL K H p ys ∨ SqT K H p ys) ∧ Q (.int (ys.length : Nat)) H) (tCons (tC (.ref (He.ga K "LIMITS"))) tNil)) [some (V.ref a), u, v] H2 (.int ((10 : Nat) : Int)) := by
      have z := ev_lenT (K := K) (tl := tC (.ref (He.ga K "LIMITS"))) (σ := [some (V.ref a), u, v]) (H := H2) ev_c (hT H2)
      rw [lT] at z
      exact z
    refine el_lcAN (K := K) (zs.drop 10) V.int (fun z => V.bl (within z 1 16)) ?_ (by rw [List.length_drop]; omega) (fun _ => rfl) fun z hz3 H3 e3 => ev_within (ev_var rfl) ev_c ev_c
    have es := el_sl (K := K) (ev_var (i := 0) rfl) (eo_some n2) eo_none (ex_l e2 ha)
    rw [cut_from (by rw [List.length_map]; exact h10), ← List.map_drop] at es
    exact es
/-! ### Policy -/
def poF (re : Addr) (p : Kp423.Policy) : List (Str × V) := [("max_attempts", .int (p.maxAttempts : Int)), ("initial_backoff", .int (p.initialBackoff : Int)), ("max_backoff", .int (p.maxBackoff : Int)), ("multiplier", .int (p.multiplier : Int)), ("hedge_delay", .int (p.hedgeDelay : Int)),
  ("threshold", .int (p.threshold : Int)), ("ejection_time", .int (p.ejectionTime : Int)), ("ejection_percent", .int (p.ejectionPercent : Int)), ("max_tokens", .int (p.maxTokens : Int)), ("refund", .int (p.refund : Int)), ("retryable", .ref re)]
abbrev PoAt (K : PySem.W.Frag) (H : Hp) (a re : Addr) (p : Kp423.Policy) : Prop := InsAt K H a "Policy" (poF re p)
section
variable {H : Hp} {σ : L2.St} {ta : TE} {a re : Addr} {p : Kp423.Policy}
variable (T : Tx K mg) (h : Ev ta σ H (.ref a)) (hb : PoAt K H a re p)
include T h hb
theorem rP_max_attempts : Ev (tFld K ta "max_attempts") σ H (.int (p.maxAttempts : Int)) := by
  obtain ⟨dx, hb⟩ := hb
  exact ev_fld h hb T.c_Policy T.n_Policy_max_attempts rfl
theorem rP_initial : Ev (tFld K ta "initial_backoff") σ H (.int (p.initialBackoff : Int)) := by
  obtain ⟨dx, hb⟩ := hb
  exact ev_fld h hb T.c_Policy T.n_Policy_initial_backoff rfl
theorem rP_max_backoff : Ev (tFld K ta "max_backoff") σ H (.int (p.maxBackoff : Int)) := by
  obtain ⟨dx, hb⟩ := hb
  exact ev_fld h hb T.c_Policy T.n_Policy_max_backoff rfl
theorem rP_multiplier : Ev (tFld K ta "multiplier") σ H (.int (p.multiplier : Int)) := by
  obtain ⟨dx, hb⟩ := hb
  exact ev_fld h hb T.c_Policy T.n_Policy_multiplier rfl
theorem rP_hedge : Ev (tFld K ta "hedge_delay") σ H (.int (p.hedgeDelay : Int)) := by
  obtain ⟨dx, hb⟩ := hb
  exact ev_fld h hb T.c_Policy T.n_Policy_hedge_delay rfl
theorem rP_threshold : Ev (tFld K ta "threshold") σ H (.int (p.threshold : Int)) := by
  obtain ⟨dx, hb⟩ := hb
  exact ev_fld h hb T.c_Policy T.n_Policy_threshold rfl
theorem rP_time : Ev (tFld K ta "ejection_time") σ H (.int (p.ejectionTime : Int)) := by
  obtain ⟨dx, hb⟩ := hb
  exact ev_fld h hb T.c_Policy T.n_Policy_ejection_time rfl
theorem rP_percent : Ev (tFld K ta "ejection_percent") σ H (.int (p.ejectionPercent : Int)) := by
  obtain ⟨dx, hb⟩ := hb
  exact ev_fld h hb T.c_Policy T.n_Policy_ejection_percent rfl
theorem rP_tokens : Ev (tFld K ta "max_tokens") σ H (.int (p.maxTokens : Int)) := by
  obtain ⟨dx, hb⟩ := hb
  exact ev_fld h hb T.c_Policy T.n_Policy_max_tokens rfl
theorem rP_refund : Ev (tFld K ta "refund") σ H (.int (p.refund : Int)) := by
  obtain ⟨dx, hb⟩ := hb
  exact ev_fld h hb T.c_Policy T.n_Policy_refund rfl
theorem rP_retryable : Ev (tFld K ta "retryable") σ H (.ref re) := by
  obtain ⟨dx, hb⟩ := hb
  exact ev_fld h hb T.c_Policy T.n_Policy_retryable rfl
end
/-- the parameters that a policy comes of -/
def polL (p : Kp423.Policy) : List Nat := [p.maxAttempts, p.initialBackoff, p.maxBackoff, p.multiplier, p.hedgeDelay, p.threshold, p.ejectionTime, p.ejectionPercent, p.maxTokens, p.refund] ++ p.retryable
abbrev natL (l : List Nat) : List V := l.map fun (n : Nat) => V.int (n : Int)
def spPoInit (K : PySem.W.Frag) : Sp := sp2 fun x y H Q _ => ∃ (p dx a : Addr) (pol : Kp423.Policy), x = .ref p ∧ y = .ref a ∧ H p = some (.ins (He.ga K "Policy") dx []) ∧ SqL K H a (natL (polL pol)) ∧ a ≠ p ∧ pol.retryable.length ≤ 1000 ∧
  ∀ H' re, H re = none → PoAt K H' p re pol → H' re = some (.lst (natL pol.retryable)) → (∀ b o, H b = some o → b ≠ p → H' b = some o) → Q .non H'
theorem at_pol {p : Kp423.Policy} {i : Nat} {n : Nat} (h : (polL p)[i]? = some n) : atI (natL (polL p)) (i : Int) = some (.int (n : Int)) := atI_nat (by rw [List.getElem?_map, h]; rfl)
theorem sc_Policy_init : FnScope ["self", "parameters"] ["self", "parameters"] (defScope s_Policy_init) := ⟨rfl, rfl, rfl, by decide +kernel, rfl, by decide +kernel, by decide +kernel⟩
theorem ok_Policy_init (T : Tx K mg) : Ok P w K mg base CX0 1 (He.ma K (He.ga K "Policy") "__init__") ["self", "parameters"] (spPoInit K) := by
  obtain ⟨fd, F0⟩ := T.def_ 14 (d := d_Policy_init) rfl
  have F : FunD K "__init__" "Policy.__init__" (defArgs s_Policy_init) (defBody s_Policy_init) (defScope s_Policy_init) [] [] (He.ma K (He.ga K "Policy") "__init__") fd := F0
  refine ⟨fd, F.ok sc_Policy_init sp2_len (fun cdv A outer s H vs Q E hr h => ?_), F.kp, F.bindsN fun _ _ _ _ _ _ us hl => match us, hl with | [_, _], _ => rfl⟩
  refine ⟨_, PSs.nox (pss_cons (ps_fld (pv 0) (pe_ix ix_list (pv 1) pe_int (fun _ _ => rfl)) rfl) (pss_cons (ps_fld (pv 0) (pe_ix ix_list (pv 1) pe_int (fun _ _ => rfl)) rfl) (pss_cons (ps_fld (pv 0) (pe_ix ix_list (pv 1) pe_int (fun _ _ => rfl)) rfl) (pss_cons (ps_fld (pv 0) (pe_ix ix_list (pv 1) pe_int (fun _ _ => rfl)) rfl) (pss_cons (ps_fld (pv 0) (pe_ix ix_list (pv 1) pe_int (fun _ _ => rfl)) rfl) (pss_cons (ps_fld (pv 0) (pe_ix ix_list (pv 1) pe_int (fun _ _ => rfl)) rfl) (pss_cons (ps_fld (pv 0) (pe_ix ix_list (pv 1) pe_int (fun _ _ => rfl)) rfl) (pss_cons (ps_fld (pv 0) (pe_ix ix_list (pv 1) pe_int (fun _ _ => rfl)) rfl) (pss_cons (ps_fld (pv 0) (pe_ix ix_list (pv 1) pe_int (fun _ _ => rfl)) rfl) (pss_cons (ps_fld (pv 0) (pe_ix ix_list (pv 1) pe_int (fun _ _ => rfl)) rfl) (pss_one (ps_fld (pv 0) (pe_callTy call_list_of rfl T.b_list (by decide +kernel) (pa_cons (pe_slice sl_list (pv 1) (po_some pe_int) po_none) pa_nil)) rfl)))))))))))), ?_⟩
  obtain ⟨_, _, rfl, p, dx, a, pol, rfl, rfl, hp, ha, hap, hz, k⟩ := h
  refine q_new (MkTo.start hp) (ev_op (ev_var rfl) ev_c (rv_ixL ha (at_pol (i := 0) rfl))) (ev_var rfl) T.c_Policy T.n_Policy_max_attempts (by show 0 < 1000; decide) fun H1 m1 => ?_
  refine q_new m1 (ev_op (ev_var rfl) ev_c (rv_ixL (m1.seq ha hap) (at_pol (i := 1) rfl))) (ev_var rfl) T.c_Policy T.n_Policy_initial_backoff (by show 1 < 1000; decide) fun H2 m2 => ?_
  refine q_new m2 (ev_op (ev_var rfl) ev_c (rv_ixL (m2.seq ha hap) (at_pol (i := 2) rfl))) (ev_var rfl) T.c_Policy T.n_Policy_max_backoff (by show 2 < 1000; decide) fun H3 m3 => ?_
  refine q_new m3 (ev_op (ev_var rfl) ev_c (rv_ixL (m3.seq ha hap) (at_pol (i := 3) rfl))) (ev_var rfl) T.c_Policy T.n_Policy_multiplier (by show 3 < 1000; decide) fun H4 m4 => ?_
  refine q_new m4 (ev_op (ev_var rfl) ev_c (rv_ixL (m4.seq ha hap) (at_pol (i := 4) rfl))) (ev_var rfl) T.c_Policy T.n_Policy_hedge_delay (by show 4 < 1000; decide) fun H5 m5 => ?_
  refine q_new m5 (ev_op (ev_var rfl) ev_c (rv_ixL (m5.seq ha hap) (at_pol (i := 5) rfl))) (ev_var rfl) T.c_Policy T.n_Policy_threshold (by show 5 < 1000; decide) fun H6 m6 => ?_
  refine q_new m6 (ev_op (ev_var rfl) ev_c (rv_ixL (m6.seq ha hap) (at_pol (i := 6) rfl))) (ev_var rfl) T.c_Policy T.n_Policy_ejection_time (by show 6 < 1000; decide) fun H7 m7 => ?_
  refine q_new m7 (ev_op (ev_var rfl) ev_c (rv_ixL (m7.seq ha hap) (at_pol (i := 7) rfl))) (ev_var rfl) T.c_Policy T.n_Policy_ejection_percent (by show 7 < 1000; decide) fun H8 m8 => ?_
  refine q_new m8 (ev_op (ev_var rfl) ev_c (rv_ixL (m8.seq ha hap) (at_pol (i := 8) rfl))) (ev_var rfl) T.c_Policy T.n_Policy_max_tokens (by show 8 < 1000; decide) fun H9 m9 => ?_
  refine q_new m9 (ev_op (ev_var rfl) ev_c (rv_ixL (m9.seq ha hap) (at_pol (i := 9) rfl))) (ev_var rfl) T.c_Policy T.n_Policy_refund (by show 9 < 1000; decide) fun H10 m10 => ?_
  have es := el_sl (K := K) (σ := start ["self", "parameters"] [V.ref p, V.ref a]) (H := H10) (ev_var (i := 1) rfl) (eo_some (ev_c (v := .int ((10 : Nat) : Int)))) eo_none (m10.seq ha hap)
  rw [cut_from (by rw [List.length_map]; simp [polL])] at es
  refine s_newL m10 (el_listN es) (ev_var rfl) T.c_Policy T.n_Policy_retryable (by show 10 < 1000; decide) fun re H11 hre h11 m11 => ?_
  refine k H11 re ?_ ⟨dx, m11.at_⟩ h11 m11.old
  cases q : H re with
  | none => rfl
  | some o =>
    have ne : re ≠ p := fun z => by rw [z, m10.at_] at hre; cases hre
    rw [m10.old re o q ne] at hre
    cases hre
def spPoMost (K : PySem.W.Frag) : Sp := sp1 fun x H Q _ => ∃ (a re : Addr) (p : Kp423.Policy), x = .ref a ∧ PoAt K H a re p ∧ RetV (.int ((p.maxTokens * 1000 : Nat) : Int)) H Q
theorem sc_Policy_most_tokens : FnScope ["self"] ["self"] (defScope s_Policy_most_tokens) := ⟨rfl, rfl, rfl, by decide +kernel, rfl, by decide +kernel, by decide +kernel⟩
theorem ok_Policy_most_tokens (T : Tx K mg) : Ok P w K mg base CX0 1 (He.ma K (He.ga K "Policy") "most_tokens") ["self"] (spPoMost K) := by
  obtain ⟨fd, F0⟩ := T.def_ 15 (d := d_Policy_most_tokens) rfl
  have F : FunD K "most_tokens" "Policy.most_tokens" (defArgs s_Policy_most_tokens) (defBody s_Policy_most_tokens) (defScope s_Policy_most_tokens) [] [] (He.ma K (He.ga K "Policy") "most_tokens") fd := F0
  refine ⟨fd, F.ok sc_Policy_most_tokens sp1_len (fun cdv A outer s H vs Q E hr h => ?_), F.kp, F.bindsN fun _ _ _ _ _ _ us hl => match us, hl with | [_], _ => rfl⟩
  refine ⟨_, PSs.nox (pss_one (ps_ret (pe_op op_mul (pe_fld (pv 0) rfl) pe_int))), ?_⟩
  obtain ⟨_, rfl, a, re, p, rfl, hb, k⟩ := h
  exact s_ret (ev_op (rP_tokens T (ev_var rfl) hb) ev_c (rv_I (Or.inr (by decide)))) k
theorem ev_most {σ : L2.St} {H : Hp} {ta : TE} {E : XK} {a re : Addr} {p : Kp423.Policy} (h : Ev ta σ H (.ref a)) (hb : PoAt K H a re p) : Ev (tMeth (He.ga K "Policy") "most_tokens" (spPoMost K) [] E ta tNil) σ H (.int ((p.maxTokens * 1000 : Nat) : Int)) := by
  obtain ⟨dx, hd⟩ := id hb
  exact ev_meth h hd rfl ea_nil (spV_of fun H2 e2 Q E r => ⟨_, rfl, a, re, p, rfl, hb.ex e2, r⟩)
/-- whether the budget allows further attempts -/
def allowsN (p : Kp423.Policy) (tokens : Nat) : Bool := p.maxTokens == 0 || decide (p.maxTokens * 1000 < 2 * tokens)
def spPoAllow (K : PySem.W.Frag) : Sp := sp2 fun x y H Q _ => ∃ (a re : Addr) (p : Kp423.Policy) (tk : Nat), x = .ref a ∧ y = .int (tk : Int) ∧ PoAt K H a re p ∧ RetV (.bl (allowsN p tk)) H Q
theorem sc_Policy_does_allow : FnScope ["self", "tokens"] ["self", "tokens"] (defScope s_Policy_does_allow) := ⟨rfl, rfl, rfl, by decide +kernel, rfl, by decide +kernel, by decide +kernel⟩
theorem ok_Policy_does_allow (T : Tx K mg) : Ok P w K mg base CX0 2 (He.ma K (He.ga K "Policy") "does_allow") ["self", "tokens"] (spPoAllow K) := by
  obtain ⟨fd, F0⟩ := T.def_ 16 (d := d_Policy_does_allow) rfl
  have F : FunD K "does_allow" "Policy.does_allow" (defArgs s_Policy_does_allow) (defBody s_Policy_does_allow) (defScope s_Policy_does_allow) [] [] (He.ma K (He.ga K "Policy") "does_allow") fd := F0
  refine ⟨fd, F.ok sc_Policy_does_allow sp2_len (fun cdv A outer s H vs Q E hr h => ?_), F.kp, F.bindsN fun _ _ _ _ _ _ us hl => match us, hl with | [_, _], _ => rfl⟩
  refine ⟨_, PSs.nox (pss_one (ps_ret (pe_or (pe_cmpR op_eq (pe_fld (pv 0) rfl) pe_int (nomark _)) (pe_one (pe_cmpR op_gt (pe_op op_mul pe_int (pv 1)) (pe_meth0O (pv 0) T.c_Policy T.m_Policy_most_tokens (ok_Policy_most_tokens T) (hr.mono (by decide)) pass0) (nomark _)))))), ?_⟩
  obtain ⟨_, _, rfl, a, re, p, tk, rfl, rfl, hb, k⟩ := h
  refine s_ret (ev_is (ev_orV (ev_op (rP_tokens T (ev_var rfl) hb) ev_c (rv_eq rfl)) fun _ => ev_op (ev_op ev_c (ev_var rfl) (rv_I (Or.inl ⟨by decide, by decide⟩))) (ev_most (ev_var rfl) hb) rv_I0) (congrArg V.bl ?_)) k
  unfold allowsN
  have e1 : decide (V.int (p.maxTokens : Int) = V.int 0) = (p.maxTokens == 0) := by
    rw [Bool.eq_iff_iff, decide_eq_true_eq, beq_iff_eq]
    exact ⟨fun z => by injection z with z; omega, fun z => by rw [z]; rfl⟩
  have e2 : decide (((p.maxTokens * 1000 : Nat) : Int) < 2 * (tk : Int)) = decide (p.maxTokens * 1000 < 2 * tk) := decide_eq_decide.mpr (by omega)
  rw [e1, e2]
theorem ev_allow {σ : L2.St} {H : Hp} {ta tb : TE} {E : XK} {a re : Addr} {p : Kp423.Policy} {tk : Nat} (h : Ev ta σ H (.ref a)) (hb : PoAt K H a re p) (ht : Ev tb σ H (.int (tk : Int))) : Ev (tMeth (He.ga K "Policy") "does_allow" (spPoAllow K) [] E ta (tCons tb tNil)) σ H (.bl (allowsN p tk)) := by
  obtain ⟨dx, hd⟩ := id hb
  exact ev_meth h hd rfl (ea_cons ht ea_nil) (spV_of fun H2 e2 Q E r => ⟨_, _, rfl, a, re, p, tk, rfl, rfl, hb.ex e2, r⟩)
def spPoBound (K : PySem.W.Frag) : Sp := sp2 fun x y H Q _ => ∃ (a re : Addr) (p : Kp423.Policy) (n : Nat), x = .ref a ∧ y = .int (n : Int) ∧ PoAt K H a re p ∧ p.multiplier ≤ 1000 ∧ 1 ≤ n ∧ n ≤ 100 ∧ RetV (.int (Kp423.backoffBound p n : Int)) H Q
theorem pow_wide (n : Nat) (h : n ≤ 100) : (100 ^ n : Nat) < 2 ^ 800 := by
  have h1 : (100 ^ n : Nat) ≤ 128 ^ n := Nat.pow_le_pow_left (by decide) n
  have h2 : (128 ^ n : Nat) ≤ 128 ^ 100 := Nat.pow_le_pow_right (by decide) h
  have h3 : (128 ^ 100 : Nat) = 2 ^ 700 := by rw [show (128 : Nat) = 2 ^ 7 from rfl, ← Nat.pow_mul]
  have h4 : (2 ^ 700 : Nat) < 2 ^ 800 := Nat.pow_lt_pow_right (by decide) (by decide)
  omega
theorem sc_Policy_backoff_bound : FnScope ["self", "retry", "upper", "lower", "turn"] ["self", "retry"] (defScope s_Policy_backoff_bound) := ⟨rfl, rfl, rfl, by decide +kernel, rfl, by decide +kernel, by decide +kernel⟩
theorem ok_Policy_backoff_bound (T : Tx K mg) : Ok P w K mg base CX0 1 (He.ma K (He.ga K "Policy") "backoff_bound") ["self", "retry"] (spPoBound K) := by
  obtain ⟨fd, F0⟩ := T.def_ 17 (d := d_Policy_backoff_bound) rfl
  have F : FunD K "backoff_bound" "Policy.backoff_bound" (defArgs s_Policy_backoff_bound) (defBody s_Policy_backoff_bound) (defScope s_Policy_backoff_bound) [] [] (He.ma K (He.ga K "Policy") "backoff_bound") fd := F0
  refine ⟨fd, F.ok sc_Policy_backoff_bound sp2_len (fun cdv A outer s H vs Q E hr h => ?_), F.kp, F.bindsN fun _ _ _ _ _ _ us hl => match us, hl with | [_, _], _ => rfl⟩
  refine ⟨_, PSs.nox (pss_cons (ps_par (i := 2) (j := 3) rfl sc_Policy_backoff_bound.nd rfl rfl (by decide) rfl rfl (pa_cons (pe_fld (pv 0) rfl) (pa_cons pe_int pa_nil)) (by rfl)) (pss_cons (ps_for PassesOwn.never rfl (pi_range1 rfl T.b_range (pa_cons (pe_op op_sub (pv 1) pe_int) pa_nil)) (pg_name (i := 4) sc_Policy_backoff_bound.nd rfl (Or.inl rfl)) (pss_cons (ps_set (i := 2) sc_Policy_backoff_bound.nd rfl (Or.inl rfl) (pe_op op_mul (pv 2) (pe_fld (pv 0) rfl))) (pss_one (ps_set (i := 3) sc_Policy_backoff_bound.nd rfl (Or.inl rfl) (pe_op op_mul (pv 3) pe_int))))) (pss_one (ps_ret (pe_callB (call_min2 rfl) rfl T.b_min (by decide +kernel) (pa_cons (pe_fld (pv 0) rfl) (pa_cons (pe_op op_fdivW (pv 2) (pv 3)) pa_nil))))))), ?_⟩
  obtain ⟨_, _, rfl, a, re, p, n, rfl, rfl, hb, hm, h1, h2, k⟩ := h
  refine q_par (ea_cons (rP_initial T (ev_var rfl) hb) (ea_cons ev_c ea_nil)) fun H1 e1 => ?_
  refine q_forR1 (n := (n : Int) - 1) (ea_cons (ev_op (ev_var rfl) ev_c rv_I0) ea_nil) ⟨by omega, by omega⟩ (fun i σ' H' => ∃ v, σ' = [some (.ref a), some (.int (n : Int)), some (.int ((p.initialBackoff * p.multiplier ^ i : Nat) : Int)), some (.int ((100 ^ i : Nat) : Int)), v] ∧ Ex H H') ?_ ?_ ?_
  · exact fun H2 e2 => ⟨none, by rw [Nat.pow_zero, Nat.mul_one]; rfl, e1.trans e2⟩
  · rintro i _ H2 hi ⟨v, rfl, e2⟩
    refine q_asg (ev_op (ev_var rfl) (rP_multiplier T (ev_var rfl) (hb.ex e2)) (rv_I (Or.inr ⟨by omega, by omega⟩))) fun H3 e3 => ?_
    refine s_asg (ev_op (ev_var rfl) ev_c (rv_I (Or.inr (by decide)))) fun H4 e4 => ⟨some (.int (i : Int)), ?_, (e2.trans e3).trans e4⟩
    rw [Nat.pow_succ, Nat.pow_succ, ← Nat.mul_assoc, Int.natCast_mul (p.initialBackoff * p.multiplier ^ i), Int.natCast_mul (100 ^ i)]
    rfl
  · rintro _ H2 ⟨v, rfl, e2⟩
    have e0 : ((n : Int) - 1).toNat = n - 1 := by omega
    rw [e0]
    have hw := pow_wide (n - 1) (by omega)
    have hp : 0 < 100 ^ (n - 1) := Nat.pow_pos (by decide)
    refine s_ret (ev_is (ev_min2 (rP_max_backoff T (ev_var rfl) (hb.ex e2)) (ev_op (ev_var rfl) (ev_var rfl) (rv_I (wide_div (b := 800) (by omega) (by rw [Int.natAbs_natCast]; exact hw) (by decide) (by decide))))) (congrArg V.int ?_)) fun H3 e3 => k H3 (e2.trans e3)
    rw [← Int.natCast_ediv]
    show (if ((p.initialBackoff * p.multiplier ^ (n - 1) / 100 ^ (n - 1) : Nat) : Int) < (p.maxBackoff : Int) then ((p.initialBackoff * p.multiplier ^ (n - 1) / 100 ^ (n - 1) : Nat) : Int) else (p.maxBackoff : Int)) = ((min p.maxBackoff (p.initialBackoff * p.multiplier ^ (n - 1) / 100 ^ (n - 1)) : Nat) : Int)
    split <;> omega
end
end Hc
namespace Hc
open PySem PySem.Spec PyProof.Rows L2 Evl
/-! ### calls and attempts in the heap -/
def caF (i : Nat) (kl : Addr) (x : Kp423.RemoteCall) : List (Str × V) := [("number", .int (i : Int)), ("deadline", .int (x.deadline : Int)), ("is_idempotent", .bl x.idempotent), ("key", .int (x.key : Int)), ("counted", .int (x.counted : Int)), ("retries", .int (x.retries : Int)), ("has_transparent", .bl x.transparent),
  ("retry_at", optV x.retryAt), ("hedge_at", optV x.hedgeAt), ("final", optV x.status), ("finished_at", .int (x.finishedAt : Int)), ("attempts", .ref kl)]
abbrev CaAt (K : PySem.W.Frag) (H : Hp) (a : Addr) (i : Nat) (kl : Addr) (x : Kp423.RemoteCall) : Prop := InsAt K H a "Call" (caF i kl x)
def stI : Kp423.AttemptState → Nat
  | .running => 0
  | .finished _ => 1
  | .cancelled => 2
def stS : Kp423.AttemptState → Nat
  | .finished s => s
  | _ => 0
def atF (i : Nat) (ck bk : Addr) (a : Kp423.Attempt) : List (Str × V) := [("number", .int (i : Int)), ("call", .ref ck), ("backend", .ref bk), ("place", .int (a.number : Int)), ("started_at", .int (a.startedAt : Int)), ("state", .int (stI a.state : Int)), ("status", .int (stS a.state : Int))]
abbrev AtAt (K : PySem.W.Frag) (H : Hp) (p : Addr) (i : Nat) (ck bk : Addr) (a : Kp423.Attempt) : Prop := InsAt K H p "Attempt" (atF i ck bk a)
theorem run_is (a : Kp423.Attempt) : decide (stI a.state = 0) = Kp423.isRunning a := by
  unfold Kp423.isRunning
  cases a.state with
  | running => rfl
  | finished s => rfl
  | cancelled => rfl
section
variable {P : Program} {w : World} {K : PySem.W.Frag} {mg : Str → Option Value} {base : Heap}
section
variable {H : Hp} {σ : L2.St} {ta : TE} {a : Addr} {i : Nat} {kl : Addr} {x : Kp423.RemoteCall}
variable (T : Tx K mg) (h : Ev ta σ H (.ref a)) (hb : CaAt K H a i kl x)
include T h hb
theorem rC_number : Ev (tFld K ta "number") σ H (.int (i : Int)) := by
  obtain ⟨dx, hb⟩ := hb
  exact ev_fld h hb T.c_Call T.n_Call_number rfl
theorem rC_deadline : Ev (tFld K ta "deadline") σ H (.int (x.deadline : Int)) := by
  obtain ⟨dx, hb⟩ := hb
  exact ev_fld h hb T.c_Call T.n_Call_deadline rfl
theorem rC_idem : Ev (tFld K ta "is_idempotent") σ H (.bl x.idempotent) := by
  obtain ⟨dx, hb⟩ := hb
  exact ev_fld h hb T.c_Call T.n_Call_is_idempotent rfl
theorem rC_key : Ev (tFld K ta "key") σ H (.int (x.key : Int)) := by
  obtain ⟨dx, hb⟩ := hb
  exact ev_fld h hb T.c_Call T.n_Call_key rfl
theorem rC_counted : Ev (tFld K ta "counted") σ H (.int (x.counted : Int)) := by
  obtain ⟨dx, hb⟩ := hb
  exact ev_fld h hb T.c_Call T.n_Call_counted rfl
theorem rC_retries : Ev (tFld K ta "retries") σ H (.int (x.retries : Int)) := by
  obtain ⟨dx, hb⟩ := hb
  exact ev_fld h hb T.c_Call T.n_Call_retries rfl
theorem rC_transparent : Ev (tFld K ta "has_transparent") σ H (.bl x.transparent) := by
  obtain ⟨dx, hb⟩ := hb
  exact ev_fld h hb T.c_Call T.n_Call_has_transparent rfl
theorem rC_retry_at : Ev (tFld K ta "retry_at") σ H (optV x.retryAt) := by
  obtain ⟨dx, hb⟩ := hb
  exact ev_fld h hb T.c_Call T.n_Call_retry_at rfl
theorem rC_hedge_at : Ev (tFld K ta "hedge_at") σ H (optV x.hedgeAt) := by
  obtain ⟨dx, hb⟩ := hb
  exact ev_fld h hb T.c_Call T.n_Call_hedge_at rfl
theorem rC_final : Ev (tFld K ta "final") σ H (optV x.status) := by
  obtain ⟨dx, hb⟩ := hb
  exact ev_fld h hb T.c_Call T.n_Call_final rfl
theorem rC_finished : Ev (tFld K ta "finished_at") σ H (.int (x.finishedAt : Int)) := by
  obtain ⟨dx, hb⟩ := hb
  exact ev_fld h hb T.c_Call T.n_Call_finished_at rfl
theorem rC_attempts : Ev (tFld K ta "attempts") σ H (.ref kl) := by
  obtain ⟨dx, hb⟩ := hb
  exact ev_fld h hb T.c_Call T.n_Call_attempts rfl
end
section
variable {H : Hp} {σ : L2.St} {ta : TE} {p : Addr} {i : Nat} {ck bk : Addr} {a : Kp423.Attempt}
variable (T : Tx K mg) (h : Ev ta σ H (.ref p)) (hb : AtAt K H p i ck bk a)
include T h hb
theorem rA_number : Ev (tFld K ta "number") σ H (.int (i : Int)) := by
  obtain ⟨dx, hb⟩ := hb
  exact ev_fld h hb T.c_Attempt T.n_Attempt_number rfl
theorem rA_call : Ev (tFld K ta "call") σ H (.ref ck) := by
  obtain ⟨dx, hb⟩ := hb
  exact ev_fld h hb T.c_Attempt T.n_Attempt_call rfl
theorem rA_backend : Ev (tFld K ta "backend") σ H (.ref bk) := by
  obtain ⟨dx, hb⟩ := hb
  exact ev_fld h hb T.c_Attempt T.n_Attempt_backend rfl
theorem rA_place : Ev (tFld K ta "place") σ H (.int (a.number : Int)) := by
  obtain ⟨dx, hb⟩ := hb
  exact ev_fld h hb T.c_Attempt T.n_Attempt_place rfl
theorem rA_started : Ev (tFld K ta "started_at") σ H (.int (a.startedAt : Int)) := by
  obtain ⟨dx, hb⟩ := hb
  exact ev_fld h hb T.c_Attempt T.n_Attempt_started_at rfl
theorem rA_state : Ev (tFld K ta "state") σ H (.int (stI a.state : Int)) := by
  obtain ⟨dx, hb⟩ := hb
  exact ev_fld h hb T.c_Attempt T.n_Attempt_state rfl
theorem rA_status : Ev (tFld K ta "status") σ H (.int (stS a.state : Int)) := by
  obtain ⟨dx, hb⟩ := hb
  exact ev_fld h hb T.c_Attempt T.n_Attempt_status rfl
end
/-! ### one object is written, the others stand -/
def At1 (H : Hp) (p : Addr) (H' : Hp) : Prop := ∀ b o, H b = some o → b ≠ p → H' b = some o
/-- self.f = e, the attributes then told anew -/
theorem s_obj {H : Hp} {σ : L2.St} {ta tb : TE} {D : Ends} {p : Addr} {c : Str} {v : V} {f : Str} {fs gs : List (Str × V)} (hv : Ev tb σ H v) (h : Ev ta σ H (.ref p)) (hb : InsAt K H p c fs) (cl : Cls K (He.ga K c)) (n : NoAttr K (He.ga K c) f) (hl : fs.length < 1000) (e : putF f v fs = gs)
    (k : ∀ H1, InsAt K H1 p c gs → At1 H p H1 → D.nx σ H1) : sFld K ta tb f D σ H := by
  obtain ⟨dx, hd⟩ := hb
  refine s_fld hv h hd cl n hl fun H1 e1 => k _ ⟨dx, by rw [upd_same, e]⟩ fun b o q nb => ?_
  rw [upd_ne nb]
  exact e1 _ _ q
theorem q_obj {H : Hp} {σ : L2.St} {ta tb : TE} {D : Ends} {tz : TS} {p : Addr} {c : Str} {v : V} {f : Str} {fs gs : List (Str × V)} (hv : Ev tb σ H v) (h : Ev ta σ H (.ref p)) (hb : InsAt K H p c fs) (cl : Cls K (He.ga K c)) (n : NoAttr K (He.ga K c) f) (hl : fs.length < 1000) (e : putF f v fs = gs)
    (k : ∀ H1, InsAt K H1 p c gs → At1 H p H1 → tz D σ H1) : tSeq (sFld K ta tb f) tz D σ H :=
  s_obj (D := { D with nx := tz D }) hv h hb cl n hl e k
/-! ### the methods -/
def spTold : Sp := sp1 fun x H Q _ => ∃ o : Option Nat, x = optV o ∧ RetV (.int (Kp423.optionNumber o : Int)) H Q
theorem sc_told_or_nothing : FnScope ["value"] ["value"] (defScope s_told_or_nothing) := ⟨rfl, rfl, rfl, by decide +kernel, rfl, by decide +kernel, by decide +kernel⟩
theorem ok_told_or_nothing (T : Tx K mg) : Ok P w K mg base CX0 1 (He.ga K "told_or_nothing") ["value"] spTold := by
  obtain ⟨fd, F0⟩ := T.def_ 18 (d := d_told_or_nothing) rfl
  have F : FunD K "told_or_nothing" "told_or_nothing" (defArgs s_told_or_nothing) (defBody s_told_or_nothing) (defScope s_told_or_nothing) [] [] (He.ga K "told_or_nothing") fd := F0
  refine ⟨fd, F.ok sc_told_or_nothing sp1_len (fun cdv A outer s H vs Q E hr h => ?_), F.kp, F.bindsN fun _ _ _ _ _ _ us hl => match us, hl with | [_], _ => rfl⟩
  refine ⟨_, PSs.nox (pss_one (ps_ret (pe_ifExp (pt_cmpR op_isN (pv 0) pe_non (nomark _)) pe_int (pe_op op_add (pv 0) pe_int)))), ?_⟩
  obtain ⟨_, rfl, o, rfl, k⟩ := h
  cases o with
  | none => exact s_ret (ev_if (b := true) (et_test (ev_isN (v := .non) (ev_var rfl))) (fun _ => ev_c) fun z => Bool.noConfusion z) k
  | some n => exact s_ret (v := .int ((n + 1 : Nat) : Int)) (ev_if (b := false) (et_test (ev_isN (v := .int (n : Int)) (ev_var rfl))) (fun z => Bool.noConfusion z) fun _ => ev_op (ev_var rfl) ev_c rv_I0) k
theorem ev_told {σ : L2.St} {H : Hp} {ta : TE} {E : XK} {o : Option Nat} (h : Ev ta σ H (optV o)) : Ev (tCall spTold [] E (tCons ta tNil)) σ H (.int (Kp423.optionNumber o : Int)) := ev_call (ea_cons h ea_nil) (spV_of fun H2 _ Q E r => ⟨_, rfl, o, rfl, r⟩)
def newC (deadline : Nat) (idem : Bool) (key : Nat) : Kp423.RemoteCall := ⟨deadline, idem, key, none, 0, 0, 0, false, none, none⟩
def spCaInit (K : PySem.W.Frag) : Sp := sp5 fun x n d b y H Q _ => ∃ (p dx : Addr) (i dl key : Nat) (idem : Bool), x = .ref p ∧ n = .int (i : Int) ∧ d = .int (dl : Int) ∧ b = .bl idem ∧ y = .int (key : Int) ∧ H p = some (.ins (He.ga K "Call") dx []) ∧
  ∀ H' kl, H kl = none → CaAt K H' p i kl (newC dl idem key) → H' kl = some (.lst []) → (∀ b o, H b = some o → b ≠ p → H' b = some o) → Q .non H'
theorem sc_Call_init : FnScope ["self", "number", "deadline", "is_idempotent", "key"] ["self", "number", "deadline", "is_idempotent", "key"] (defScope s_Call_init) := ⟨rfl, rfl, rfl, by decide +kernel, rfl, by decide +kernel, by decide +kernel⟩
theorem ok_Call_init (T : Tx K mg) : Ok P w K mg base CX0 1 (He.ma K (He.ga K "Call") "__init__") ["self", "number", "deadline", "is_idempotent", "key"] (spCaInit K) := by
  obtain ⟨fd, F0⟩ := T.def_ 19 (d := d_Call_init) rfl
  have F : FunD K "__init__" "Call.__init__" (defArgs s_Call_init) (defBody s_Call_init) (defScope s_Call_init) [] [] (He.ma K (He.ga K "Call") "__init__") fd := F0
  refine ⟨fd, F.ok sc_Call_init sp5_len (fun cdv A outer s H vs Q E hr h => ?_), F.kp, F.bindsN fun _ _ _ _ _ _ us hl => match us, hl with | [_, _, _, _, _], _ => rfl⟩
  refine ⟨_, PSs.nox (pss_cons (ps_fld (pv 0) (pv 1) rfl) (pss_cons (ps_fld (pv 0) (pv 2) rfl) (pss_cons (ps_fld (pv 0) (pv 3) rfl) (pss_cons (ps_fld (pv 0) (pv 4) rfl) (pss_cons (ps_fld (pv 0) pe_int rfl) (pss_cons (ps_fld (pv 0) pe_int rfl) (pss_cons (ps_fld (pv 0) pe_bl rfl) (pss_cons (ps_fld (pv 0) pe_non rfl) (pss_cons (ps_fld (pv 0) pe_non rfl) (pss_cons (ps_fld (pv 0) pe_non rfl) (pss_cons (ps_fld (pv 0) pe_int rfl) (pss_one (ps_fld (pv 0) (pe_lst pa_nil) rfl))))))))))))), ?_⟩
  obtain ⟨_, _, _, _, _, rfl, p, dx, i, dl, key, idem, rfl, rfl, rfl, rfl, rfl, hp, k⟩ := h
  refine q_new (MkTo.start hp) (ev_var rfl) (ev_var rfl) T.c_Call T.n_Call_number (by show 0 < 1000; decide) fun H1 m1 => ?_
  refine q_new m1 (ev_var rfl) (ev_var rfl) T.c_Call T.n_Call_deadline (by show 1 < 1000; decide) fun H2 m2 => ?_
  refine q_new m2 (ev_var rfl) (ev_var rfl) T.c_Call T.n_Call_is_idempotent (by show 2 < 1000; decide) fun H3 m3 => ?_
  refine q_new m3 (ev_var rfl) (ev_var rfl) T.c_Call T.n_Call_key (by show 3 < 1000; decide) fun H4 m4 => ?_
  refine q_new m4 ev_c (ev_var rfl) T.c_Call T.n_Call_counted (by show 4 < 1000; decide) fun H5 m5 => ?_
  refine q_new m5 ev_c (ev_var rfl) T.c_Call T.n_Call_retries (by show 5 < 1000; decide) fun H6 m6 => ?_
  refine q_new m6 ev_c (ev_var rfl) T.c_Call T.n_Call_has_transparent (by show 6 < 1000; decide) fun H7 m7 => ?_
  refine q_new m7 ev_c (ev_var rfl) T.c_Call T.n_Call_retry_at (by show 7 < 1000; decide) fun H8 m8 => ?_
  refine q_new m8 ev_c (ev_var rfl) T.c_Call T.n_Call_hedge_at (by show 8 < 1000; decide) fun H9 m9 => ?_
  refine q_new m9 ev_c (ev_var rfl) T.c_Call T.n_Call_final (by show 9 < 1000; decide) fun H10 m10 => ?_
  refine q_new m10 ev_c (ev_var rfl) T.c_Call T.n_Call_finished_at (by show 10 < 1000; decide) fun H11 m11 => ?_
  refine s_newL m11 el_nil (ev_var rfl) T.c_Call T.n_Call_attempts (by show 11 < 1000; decide) fun kl H12 hkl h12 m12 => ?_
  refine k H12 kl ?_ ⟨dx, m12.at_⟩ h12 m12.old
  cases q : H kl with
  | none => rfl
  | some o =>
    have ne : kl ≠ p := fun z => by rw [z, m11.at_] at hkl; cases hkl
    rw [m11.old kl o q ne] at hkl
    cases hkl
def spIsOpen (K : PySem.W.Frag) : Sp := sp1 fun x H Q _ => ∃ (a : Addr) (i : Nat) (kl : Addr) (c : Kp423.RemoteCall), x = .ref a ∧ CaAt K H a i kl c ∧ RetV (.bl (Kp423.isOpen c)) H Q
theorem opt_non (o : Option Nat) : decide (optV o = V.non) = o.isNone := by
  cases o with
  | none => rfl
  | some n => rfl
theorem sc_Call_is_open : FnScope ["self"] ["self"] (defScope s_Call_is_open) := ⟨rfl, rfl, rfl, by decide +kernel, rfl, by decide +kernel, by decide +kernel⟩
theorem ok_Call_is_open (T : Tx K mg) : Ok P w K mg base CX0 1 (He.ma K (He.ga K "Call") "is_open") ["self"] (spIsOpen K) := by
  obtain ⟨fd, F0⟩ := T.def_ 20 (d := d_Call_is_open) rfl
  have F : FunD K "is_open" "Call.is_open" (defArgs s_Call_is_open) (defBody s_Call_is_open) (defScope s_Call_is_open) [] [] (He.ma K (He.ga K "Call") "is_open") fd := F0
  refine ⟨fd, F.ok sc_Call_is_open sp1_len (fun cdv A outer s H vs Q E hr h => ?_), F.kp, F.bindsN fun _ _ _ _ _ _ us hl => match us, hl with | [_], _ => rfl⟩
  refine ⟨_, PSs.nox (pss_one (ps_ret (pe_cmpR op_isN (pe_fld (pv 0) rfl) pe_non (nomark _)))), ?_⟩
  obtain ⟨_, rfl, a, i, kl, c, rfl, hb, k⟩ := h
  exact s_ret (ev_is (ev_isN (rC_final T (ev_var rfl) hb)) (congrArg V.bl (opt_non c.status))) k
theorem ev_open {σ : L2.St} {H : Hp} {ta : TE} {E : XK} {a kl : Addr} {i : Nat} {c : Kp423.RemoteCall} (h : Ev ta σ H (.ref a)) (hb : CaAt K H a i kl c) : Ev (tMeth (He.ga K "Call") "is_open" (spIsOpen K) [] E ta tNil) σ H (.bl (Kp423.isOpen c)) := by
  obtain ⟨dx, hd⟩ := id hb
  exact ev_meth h hd rfl ea_nil (spV_of fun H2 e2 Q E r => ⟨_, rfl, a, i, kl, c, rfl, hb.ex e2, r⟩)
/-- attempts, where they stand, what they are -/
structure Ats (K : PySem.W.Frag) (H : Hp) (l : List Nat) (α : Nat → Addr) (at_ : Nat → Kp423.Attempt) (κ β : Nat → Addr) : Prop where
  at' : ∀ j ∈ l, AtAt K H (α j) j (κ (at_ j).call) (β (at_ j).backend) (at_ j)
theorem Ats.ex {H H' : Hp} {l : List Nat} {α κ β : Nat → Addr} {at_ : Nat → Kp423.Attempt} (h : Ats K H l α at_ κ β) (e : Ex H H') : Ats K H' l α at_ κ β := ⟨fun j hj => (h.at' j hj).ex e⟩
def spRunning (K : PySem.W.Frag) : Sp := sp1 fun x H Q _ => ∃ (a kl : Addr) (i : Nat) (c : Kp423.RemoteCall) (l : List Nat) (α κ β : Nat → Addr) (at_ : Nat → Kp423.Attempt), x = .ref a ∧ CaAt K H a i kl c ∧ H kl = some (.lst (baL l α)) ∧ Ats K H l α at_ κ β ∧ l.length ≤ 40000 ∧
  RetL (baL (l.filter fun j => Kp423.isRunning (at_ j)) α) H Q
theorem et_run {σ : L2.St} {H : Hp} {ta : TE} {p ck bk : Addr} {i : Nat} {a : Kp423.Attempt} (T : Tx K mg) (h : Ev ta σ H (.ref p)) (hb : AtAt K H p i ck bk a) : EvT (tTest (tOp rEq (tFld K ta "state") (tC (.int 0)))) σ H (Kp423.isRunning a) := et_is (et_eqN (b := 0) (rA_state T h hb) ev_c) (run_is a)
theorem sc_Call_running : FnScope ["self", "attempt"] ["self"] (defScope s_Call_running) := ⟨rfl, rfl, rfl, by decide +kernel, rfl, by decide +kernel, by decide +kernel⟩
theorem ok_Call_running (T : Tx K mg) : Ok P w K mg base CX0 1 (He.ma K (He.ga K "Call") "running") ["self"] (spRunning K) := by
  obtain ⟨fd, F0⟩ := T.def_ 21 (d := d_Call_running) rfl
  have F : FunD K "running" "Call.running" (defArgs s_Call_running) (defBody s_Call_running) (defScope s_Call_running) [] [] (He.ma K (He.ga K "Call") "running") fd := F0
  refine ⟨fd, F.ok sc_Call_running sp1_len (fun cdv A outer s H vs Q E hr h => ?_), F.kp, F.bindsN fun _ _ _ _ _ _ us hl => match us, hl with | [_], _ => rfl⟩
  refine ⟨_, PSs.nox (pss_one (ps_ret (pe_lc (own := [("attempt", 1)]) (g := (gName 1)) (tt := (tTest (tOp rEq (tFld K (tVar 1) "state") (tC (.int (0)))))) (te := (tVar 1)) rfl sc_Call_running.nd (pi_list (pe_fld (pv 0) rfl)) (blkOk_by (own := [("attempt", 1)]) (N := ["self", "attempt"]) (sc := defScope s_Call_running) (by decide +kernel)) (fun _ _ _ _ _ => by exact (pg_name (i := 1) sc_Call_running.nd rfl (Or.inl rfl))) (fun _ _ _ _ _ => by exact (pts_one (pt_cmpR op_eq (pe_fld (pv 1) rfl) (pe_gi T.i_RUNNING) (nomark _)))) (fun _ _ _ _ _ => by exact (pv 1))))), ?_⟩
  obtain ⟨_, rfl, a, kl, i, c, l, α, κ, β, at_, rfl, hb, hl, hA, hz, k⟩ := h
  exact s_retL (el_lcM (K := K) l (fun j => V.ref (α j)) (fun j => Kp423.isRunning (at_ j)) (fun j => V.ref (α j)) (rC_attempts T (ev_var rfl) hb) (sq_of hl) hz (fun _ => rfl) (fun j hj H1 e1 => et_run T (ev_var rfl) ((hA.ex e1).at' j hj)) fun j hj H1 e1 _ => ev_var rfl) k
def spHasUsed (K : PySem.W.Frag) : Sp := sp2 fun x y H Q _ => ∃ (a kl b : Addr) (i n : Nat) (c : Kp423.RemoteCall) (bk : Kp423.Backend) (l : List Nat) (α κ β : Nat → Addr) (at_ : Nat → Kp423.Attempt) (bks : Nat → Kp423.Backend), x = .ref a ∧ y = .ref b ∧ CaAt K H a i kl c ∧ BaAt K H b n bk ∧ H kl = some (.lst (baL l α)) ∧ Ats K H l α at_ κ β ∧
  (∀ j ∈ l, BaAt K H (β (at_ j).backend) (at_ j).backend (bks j)) ∧ l.length ≤ 40000 ∧ RetV (.bl (l.any fun j => decide ((at_ j).backend = n))) H Q
theorem sc_Call_has_used : FnScope ["self", "backend", "attempt"] ["self", "backend"] (defScope s_Call_has_used) := ⟨rfl, rfl, rfl, by decide +kernel, rfl, by decide +kernel, by decide +kernel⟩
theorem ok_Call_has_used (T : Tx K mg) : Ok P w K mg base CX0 1 (He.ma K (He.ga K "Call") "has_used") ["self", "backend"] (spHasUsed K) := by
  obtain ⟨fd, F0⟩ := T.def_ 22 (d := d_Call_has_used) rfl
  have F : FunD K "has_used" "Call.has_used" (defArgs s_Call_has_used) (defBody s_Call_has_used) (defScope s_Call_has_used) [] [] (He.ma K (He.ga K "Call") "has_used") fd := F0
  refine ⟨fd, F.ok sc_Call_has_used sp2_len (fun cdv A outer s H vs Q E hr h => ?_), F.kp, F.bindsN fun _ _ _ _ _ _ us hl => match us, hl with | [_, _], _ => rfl⟩
  refine ⟨_, PSs.nox (pss_one (ps_ret (pe_callB (cr_any rfl) rfl T.b_any (by decide +kernel) (pa_cons (pe_lc (own := [("attempt", 2)]) (g := (gName 2)) (tt := tYes) (te := (tOp rEq (tFld K (tFld K (tVar 2) "backend") "number") (tFld K (tVar 1) "number"))) rfl sc_Call_has_used.nd (pi_list (pe_fld (pv 0) rfl)) (blkOk_by (own := [("attempt", 2)]) (N := ["self", "backend", "attempt"]) (sc := defScope s_Call_has_used) (by decide +kernel)) (fun _ _ _ _ _ => by exact (pg_name (i := 2) sc_Call_has_used.nd rfl (Or.inl rfl))) (fun _ _ _ _ _ => by exact pts_nil) (fun _ _ _ _ _ => by exact (pe_cmpR op_eq (pe_fld (pe_fld (pv 2) rfl) rfl) (pe_fld (pv 1) rfl) (nomark _)))) pa_nil)))), ?_⟩
  obtain ⟨_, _, rfl, a, kl, b, i, n, c, bk, l, α, κ, β, at_, bks, rfl, rfl, hb, hn, hl, hA, hB, hz, k⟩ := h
  have e : (l.any fun j => decide ((at_ j).backend = n)) = (l.map fun j => decide ((at_ j).backend = n)).any id := by
    rw [List.any_map]
    rfl
  rw [e] at k
  refine s_ret (ev_anyN ?_) k
  rw [List.map_map]
  exact el_lcA (K := K) l (fun j => V.ref (α j)) (fun j => V.bl (decide ((at_ j).backend = n))) (rC_attempts T (ev_var rfl) hb) (sq_of hl) hz (fun _ => rfl) fun j hj H1 e1 =>
    ev_is (ev_op (rB_number T (rA_backend T (ev_var rfl) ((hA.ex e1).at' j hj)) ((hB j hj).ex e1)) (rB_number T (ev_var rfl) (hn.ex e1)) (rv_eq rfl)) (congrArg V.bl (eq_cast _ _))
def spCaTold (K : PySem.W.Frag) : Sp := sp1 fun x H Q _ => ∃ (a kl : Addr) (i : Nat) (c : Kp423.RemoteCall), x = .ref a ∧ CaAt K H a i kl c ∧ RetV (.int (Kp423.optionNumber c.status : Int)) H Q
theorem sc_Call_told_status : FnScope ["self"] ["self"] (defScope s_Call_told_status) := ⟨rfl, rfl, rfl, by decide +kernel, rfl, by decide +kernel, by decide +kernel⟩
theorem ok_Call_told_status (T : Tx K mg) : Ok P w K mg base CX0 2 (He.ma K (He.ga K "Call") "told_status") ["self"] (spCaTold K) := by
  obtain ⟨fd, F0⟩ := T.def_ 23 (d := d_Call_told_status) rfl
  have F : FunD K "told_status" "Call.told_status" (defArgs s_Call_told_status) (defBody s_Call_told_status) (defScope s_Call_told_status) [] [] (He.ma K (He.ga K "Call") "told_status") fd := F0
  refine ⟨fd, F.ok sc_Call_told_status sp1_len (fun cdv A outer s H vs Q E hr h => ?_), F.kp, F.bindsN fun _ _ _ _ _ _ us hl => match us, hl with | [_], _ => rfl⟩
  refine ⟨_, PSs.nox (pss_one (ps_ret (pe_callO (ok_told_or_nothing T) (hr.mono (by decide)) rfl T.g_told_or_nothing pass0 (pa_cons (pe_fld (pv 0) rfl) pa_nil)))), ?_⟩
  obtain ⟨_, rfl, a, kl, i, c, rfl, hb, k⟩ := h
  exact s_ret (ev_told (rC_final T (ev_var rfl) hb)) k
theorem ev_caTold {σ : L2.St} {H : Hp} {ta : TE} {E : XK} {a kl : Addr} {i : Nat} {c : Kp423.RemoteCall} (h : Ev ta σ H (.ref a)) (hb : CaAt K H a i kl c) : Ev (tMeth (He.ga K "Call") "told_status" (spCaTold K) [] E ta tNil) σ H (.int (Kp423.optionNumber c.status : Int)) := by
  obtain ⟨dx, hd⟩ := id hb
  exact ev_meth h hd rfl ea_nil (spV_of fun H2 e2 Q E r => ⟨_, rfl, a, kl, i, c, rfl, hb.ex e2, r⟩)
/-! the timers of a call -/
def i3V (b : I3) : List V := [.int b.1, .int b.2.1, .int b.2.2]
def tmK (n : Nat) (ts : List (Option Nat)) (j : Nat) : Option I3 := (ts[j]?.join).map fun t => ((t : Int), (j : Int), (n : Int))
def tmI (n : Nat) (x : Kp423.RemoteCall) : List I3 := if Kp423.isOpen x then (List.range 3).filterMap (tmK n [some x.deadline, x.retryAt, x.hedgeAt]) else []
def spTimers (K : PySem.W.Frag) : Sp := sp1 fun x H Q _ => ∃ (a kl : Addr) (i : Nat) (c : Kp423.RemoteCall), x = .ref a ∧ CaAt K H a i kl c ∧ ∀ p H' xs, H p = none → Ex H H' → H' p = some (.lst xs) → Tups i3V (tmI i c) H' xs → Q (.ref p) H'
theorem sc_Call_timers : FnScope ["self", "times", "kind", "time"] ["self"] (defScope s_Call_timers) := ⟨rfl, rfl, rfl, by decide +kernel, rfl, by decide +kernel, by decide +kernel⟩
theorem ok_Call_timers (T : Tx K mg) : Ok P w K mg base CX0 2 (He.ma K (He.ga K "Call") "timers") ["self"] (spTimers K) := by
  obtain ⟨fd, F0⟩ := T.def_ 24 (d := d_Call_timers) rfl
  have F : FunD K "timers" "Call.timers" (defArgs s_Call_timers) (defBody s_Call_timers) (defScope s_Call_timers) [] [] (He.ma K (He.ga K "Call") "timers") fd := F0
  refine ⟨fd, F.ok sc_Call_timers sp1_len (fun cdv A outer s H vs Q E hr h => ?_), F.kp, F.bindsN fun _ _ _ _ _ _ us hl => match us, hl with | [_], _ => rfl⟩
  refine ⟨_, PSs.nox (pss_cons (ps_if (pt_not (pt_val (pe_meth0O (pv 0) T.c_Call T.m_Call_is_open (ok_Call_is_open T) (hr.mono (by decide)) pass0))) (pss_one (ps_ret (pe_lst pa_nil))) pss_nil) (pss_cons (ps_set (i := 1) sc_Call_timers.nd rfl (Or.inl rfl) (pe_lst (pa_cons (pe_fld (pv 0) rfl) (pa_cons (pe_fld (pv 0) rfl) (pa_cons (pe_fld (pv 0) rfl) pa_nil))))) (pss_one (ps_ret (pe_lc (own := [("kind", 2), ("time", 3)]) (g := (gTup K 2 (gCons (gName 2) (gCons (gName 3) gNil)))) (tt := (tTest (tOp (fun x y H Q => y = .non ∧ Q (.bl (!decide (x = .non))) H) (tVar 3) (tC .non)))) (te := (tTup (tCons (tVar 3) (tCons (tVar 2) (tCons (tFld K (tVar 0) "number") tNil))))) rfl sc_Call_timers.nd (pi_enum rfl T.b_enumerate (pa_cons (pv 1) pa_nil)) (blkOk_by (own := [("kind", 2), ("time", 3)]) (N := ["self", "times", "kind", "time"]) (sc := defScope s_Call_timers) (by decide +kernel)) (fun _ _ _ _ _ => by exact (pg_tup rfl (pgs_cons (pg_name (i := 2) sc_Call_timers.nd rfl (Or.inl rfl)) (pgs_cons (pg_name (i := 3) sc_Call_timers.nd rfl (Or.inl rfl)) pgs_nil)))) (fun _ _ _ _ _ => by exact (pts_one (pt_cmpR op_notN (pv 3) pe_non (nomark _)))) (fun _ _ _ _ _ => by exact (pe_tup (pa_cons (pv 3) (pa_cons (pv 2) (pa_cons (pe_fld (pv 0) rfl) pa_nil)))))))))), ?_⟩
  obtain ⟨_, rfl, a, kl, i, c, rfl, hb, k⟩ := h
  refine q_when (et_not (et_B (ev_open (ev_var rfl) hb))) (fun hb0 H1 e1 => ?_) fun hb0 H1 e1 => ?_
  · refine s_retL el_nil fun p H2 hp e2 h2 => k p H2 [] (fresh_back e1 hp) (e1.trans e2) h2 ?_
    have e : tmI i c = [] := if_neg (by simpa using hb0)
    rw [e]
    exact .nil
  have e0 : tmI i c = (List.range 3).filterMap (tmK i [some c.deadline, c.retryAt, c.hedgeAt]) := if_pos (by simpa using hb0)
  rw [e0] at k
  have hb1 := hb.ex e1
  refine q_asgL (el_lst (ea_cons (rC_deadline T (ev_var rfl) hb1) (ea_cons (rC_retry_at T (ev_var rfl) hb1) (ea_cons (rC_hedge_at T (ev_var rfl) hb1) ea_nil))) (by show 3 ≤ 100000; decide)) fun q H2 hq e2 h2 => ?_
  refine s_retX ⟨_, rfl, q, [.int (c.deadline : Int), optV c.retryAt, optV c.hedgeAt], rfl, sq_of h2, fun D hD => lc_it walk_enum (fun n H' => Ex H2 H' ∧ ∃ acc, H' D = some (.lst acc) ∧ Tups i3V ((List.range n).filterMap (tmK i [some c.deadline, c.retryAt, c.hedgeAt])) H' acc)
    ⟨Ex.new hD, [], upd_same, .nil⟩ (fun n H' _ p => sq_of (p.1 _ _ h2)) ?_ ?_⟩
  · rintro n v H3 H4 hn ⟨p1, acc, p2, p3⟩ ⟨t, v1, v2, rfl, ht, rfl, hv1, hv2⟩
    cases hv1
    have ht' : ∃ o : Option Nat, v2 = optV o ∧ [some c.deadline, c.retryAt, c.hedgeAt][n]? = some o := by
      match n, hn, hv2 with
      | 0, _, z => cases z; exact ⟨some c.deadline, rfl, rfl⟩
      | 1, _, z => cases z; exact ⟨c.retryAt, rfl, rfl⟩
      | 2, _, z => cases z; exact ⟨c.hedgeAt, rfl, rfl⟩
    obtain ⟨o, rfl, ho⟩ := ht'
    have hDt : D ≠ t := ne_of_none p2 ht
    have p2' : upd H3 t (.tup [.int (n : Int), optV o]) D = some (.lst acc) := by rw [upd_ne hDt]; exact p2
    have p1' : Ex H2 (upd H3 t (.tup [.int (n : Int), optV o])) := p1.trans (Ex.new ht)
    have p3' := p3.ex (H' := upd H3 t (.tup [.int (n : Int), optV o])) fun s us hs => Ex.new ht _ _ hs
    have hb3 : CaAt K (upd H3 t (.tup [.int (n : Int), optV o])) a i kl c := (hb1.ex e2).ex p1'
    have hz : acc.length < sizeLine := by
      have := p3.len
      have h9 := List.length_filterMap_le (tmK i [some c.deadline, c.retryAt, c.hedgeAt]) (List.range n)
      rw [List.length_range] at h9
      have hn3 : n < 3 := hn
      exact sz_lt (by omega)
    refine ⟨t, [.int (n : Int), optV o], rfl, st_of upd_same, rfl, _, _, rfl, _, _, rfl, rfl, rfl, ?_⟩
    refine x_t (et_test (ev_notN (ev_var rfl))) fun H5 e5 => ?_
    rw [opt_non]
    rw [List.range_succ, List.filterMap_append]
    have p2s := e5 _ _ p2'
    have p3s := p3'.ex (H' := H5) fun s us hs => e5 _ _ hs
    cases o with
    | none =>
      have et : List.filterMap (tmK i [some c.deadline, c.retryAt, c.hedgeAt]) [n] = [] := by
        simp [tmK, ho]
      rw [et, List.append_nil, if_neg (by decide)]
      exact ⟨p1'.trans e5, acc, p2s, p3s⟩
    | some tt =>
      have et : List.filterMap (tmK i [some c.deadline, c.retryAt, c.hedgeAt]) [n] = [((tt : Int), (n : Int), (i : Int))] := by
        simp [tmK, ho]
      rw [et, if_pos (show (!(some tt).isNone) = true from rfl)]
      refine x_u (eu_tup (vs := [.int (tt : Int), .int (n : Int), .int (i : Int)]) (ea_cons (ev_var rfl) (ea_cons (ev_var rfl) (ea_cons (rC_number T (ev_var rfl) (hb3.ex e5)) ea_nil))) (by show 3 ≤ 100000; decide)) fun t2 H6 ht2 e6 h6 => ⟨acc, e6 _ _ p2s, hz, Ex.mut (p1'.trans (e5.trans e6)) hD, _, upd_same, ?_⟩
      have p3u := p3s.ex (H' := H6) fun s us hs => e6 _ _ hs
      refine Tups.ex (H := H6) (fun s us hs => ?_) (p3u.snoc (u := ((tt : Int), (n : Int), (i : Int))) h6)
      rw [upd_ne (ne_of hs (e6 _ _ p2s) (by intro z; cases z))]
      exact hs
  · rintro H3 ⟨p1, acc, p2, p3⟩
    exact k D H3 acc (fresh_back (e1.trans e2) hD) ((e1.trans e2).trans p1) p2 p3
def spAtInit (K : PySem.W.Frag) : Sp := sp6 fun x n y b pl st H Q _ => ∃ (p dx ck bk : Addr) (i pn s : Nat), x = .ref p ∧ n = .int (i : Int) ∧ y = .ref ck ∧ b = .ref bk ∧ pl = .int (pn : Int) ∧ st = .int (s : Int) ∧ H p = some (.ins (He.ga K "Attempt") dx []) ∧
  ∀ H', (∀ a : Kp423.Attempt, a.number = pn → a.startedAt = s → a.state = .running → AtAt K H' p i ck bk a) → (∀ b o, H b = some o → b ≠ p → H' b = some o) → Q .non H'
theorem sc_Attempt_init : FnScope ["self", "number", "call", "backend", "place", "started_at"] ["self", "number", "call", "backend", "place", "started_at"] (defScope s_Attempt_init) := ⟨rfl, rfl, rfl, by decide +kernel, rfl, by decide +kernel, by decide +kernel⟩
theorem ok_Attempt_init (T : Tx K mg) : Ok P w K mg base CX0 1 (He.ma K (He.ga K "Attempt") "__init__") ["self", "number", "call", "backend", "place", "started_at"] (spAtInit K) := by
  obtain ⟨fd, F0⟩ := T.def_ 25 (d := d_Attempt_init) rfl
  have F : FunD K "__init__" "Attempt.__init__" (defArgs s_Attempt_init) (defBody s_Attempt_init) (defScope s_Attempt_init) [] [] (He.ma K (He.ga K "Attempt") "__init__") fd := F0
  refine ⟨fd, F.ok sc_Attempt_init sp6_len (fun cdv A outer s H vs Q E hr h => ?_), F.kp, F.bindsN fun _ _ _ _ _ _ us hl => match us, hl with | [_, _, _, _, _, _], _ => rfl⟩
  refine ⟨_, PSs.nox (pss_cons (ps_fld (pv 0) (pv 1) rfl) (pss_cons (ps_fld (pv 0) (pv 2) rfl) (pss_cons (ps_fld (pv 0) (pv 3) rfl) (pss_cons (ps_fld (pv 0) (pv 4) rfl) (pss_cons (ps_fld (pv 0) (pv 5) rfl) (pss_cons (ps_fld (pv 0) (pe_gi T.i_RUNNING) rfl) (pss_one (ps_fld (pv 0) pe_int rfl)))))))), ?_⟩
  obtain ⟨_, _, _, _, _, _, rfl, p, dx, ck, bk, i, pn, s2, rfl, rfl, rfl, rfl, rfl, rfl, hp, k⟩ := h
  refine q_new (MkTo.start hp) (ev_var rfl) (ev_var rfl) T.c_Attempt T.n_Attempt_number (by show 0 < 1000; decide) fun H1 m1 => ?_
  refine q_new m1 (ev_var rfl) (ev_var rfl) T.c_Attempt T.n_Attempt_call (by show 1 < 1000; decide) fun H2 m2 => ?_
  refine q_new m2 (ev_var rfl) (ev_var rfl) T.c_Attempt T.n_Attempt_backend (by show 2 < 1000; decide) fun H3 m3 => ?_
  refine q_new m3 (ev_var rfl) (ev_var rfl) T.c_Attempt T.n_Attempt_place (by show 3 < 1000; decide) fun H4 m4 => ?_
  refine q_new m4 (ev_var rfl) (ev_var rfl) T.c_Attempt T.n_Attempt_started_at (by show 4 < 1000; decide) fun H5 m5 => ?_
  refine q_new m5 ev_c (ev_var rfl) T.c_Attempt T.n_Attempt_state (by show 5 < 1000; decide) fun H6 m6 => ?_
  refine s_new m6 ev_c (ev_var rfl) T.c_Attempt T.n_Attempt_status (by show 6 < 1000; decide) fun H7 m7 => k H7 (fun a h1 h2 h3 => ⟨dx, ?_⟩) m7.old
  rw [m7.at_]
  unfold atF
  rw [h1, h2, h3]
  rfl
def spLeave (K : PySem.W.Frag) : Sp := sp3 fun x y z H Q _ => ∃ (p ck bk : Addr) (i n s t : Nat) (a : Kp423.Attempt) (b : Kp423.Backend), x = .ref p ∧ y = .int (s : Int) ∧ z = .int (t : Int) ∧ AtAt K H p i ck bk a ∧ BaAt K H bk n b ∧ 1 ≤ b.outstanding ∧
  ∀ H', (∀ st, stI st = s → stS st = t → AtAt K H' p i ck bk { a with state := st }) → BaAt K H' bk n { b with outstanding := b.outstanding - 1 } → (∀ q o, H q = some o → q ≠ p → q ≠ bk → H' q = some o) → Q .non H'
theorem at_ba {H : Hp} {p b ck bk : Addr} {i n : Nat} {a : Kp423.Attempt} {x : Kp423.Backend} (h1 : AtAt K H p i ck bk a) (h2 : BaAt K H b n x) : p ≠ b := by
  obtain ⟨d1, h1⟩ := h1
  obtain ⟨d2, h2⟩ := h2
  refine ne_of h1 h2 fun z => ?_
  injection z with _ _ z
  have := congrArg List.length z
  exact absurd this (by show ¬ (7 = 8); decide)
theorem sc_Attempt_leave : FnScope ["self", "state", "status"] ["self", "state", "status"] (defScope s_Attempt_leave) := ⟨rfl, rfl, rfl, by decide +kernel, rfl, by decide +kernel, by decide +kernel⟩
theorem ok_Attempt_leave (T : Tx K mg) : Ok P w K mg base CX0 1 (He.ma K (He.ga K "Attempt") "leave") ["self", "state", "status"] (spLeave K) := by
  obtain ⟨fd, F0⟩ := T.def_ 26 (d := d_Attempt_leave) rfl
  have F : FunD K "leave" "Attempt.leave" (defArgs s_Attempt_leave) (defBody s_Attempt_leave) (defScope s_Attempt_leave) [] [] (He.ma K (He.ga K "Attempt") "leave") fd := F0
  refine ⟨fd, F.ok sc_Attempt_leave sp3_len (fun cdv A outer s H vs Q E hr h => ?_), F.kp, F.bindsN fun _ _ _ _ _ _ us hl => match us, hl with | [_, _, _], _ => rfl⟩
  refine ⟨_, PSs.nox (pss_cons (ps_fld (pv 0) (pv 1) rfl) (pss_cons (ps_fld (pv 0) (pv 2) rfl) (pss_one (ps_fld (pe_fld (pv 0) rfl) (pe_op op_sub (pe_fld (pe_fld (pv 0) rfl) rfl) pe_int) rfl)))), ?_⟩
  obtain ⟨_, _, _, rfl, p, ck, bk, i, n, s2, t, a, b, rfl, rfl, rfl, hA, hB, ho, k⟩ := h
  have np := at_ba hA hB
  refine q_obj (gs := [("number", .int (i : Int)), ("call", .ref ck), ("backend", .ref bk), ("place", .int (a.number : Int)), ("started_at", .int (a.startedAt : Int)), ("state", .int (s2 : Int)), ("status", .int (stS a.state : Int))]) (ev_var rfl) (ev_var rfl) hA T.c_Attempt T.n_Attempt_state (by show 7 < 1000; decide) rfl fun H1 a1 f1 => ?_
  refine q_obj (gs := [("number", .int (i : Int)), ("call", .ref ck), ("backend", .ref bk), ("place", .int (a.number : Int)), ("started_at", .int (a.startedAt : Int)), ("state", .int (s2 : Int)), ("status", .int (t : Int))]) (ev_var rfl) (ev_var rfl) a1 T.c_Attempt T.n_Attempt_status (by show 7 < 1000; decide) rfl fun H2 a2 f2 => ?_
  obtain ⟨dx, hd⟩ := id a2
  obtain ⟨db, hbd⟩ := id hB
  have hB2 : BaAt K H2 bk n b := ⟨db, f2 _ _ (f1 _ _ hbd np.symm) np.symm⟩
  refine s_ba (b2 := { b with outstanding := b.outstanding - 1 }) T (ev_op (rB_outstanding T (ev_fld (ev_var rfl) hd T.c_Attempt T.n_Attempt_backend rfl) hB2) ev_c rv_I0) (ev_fld (ev_var rfl) hd T.c_Attempt T.n_Attempt_backend rfl) hB2 T.n_Backend_outstanding ?_ fun H3 b3 => k H3 (fun st h1 h2 => ⟨dx, ?_⟩) b3.1 fun q o hq n1 n2 => b3.2 _ _ (f2 _ _ (f1 _ _ hq n1) n1) n2
  · have e : ((b.outstanding : Int) - 1) = ((b.outstanding - 1 : Nat) : Int) := by omega
    rw [e]
    rfl
  · rw [b3.2 _ _ hd np]
    unfold atF
    rw [h1, h2]
    rfl
end
end Hc
namespace Hc
open PySem PySem.Spec PyProof.Rows L2 Evl
/-! ### where a client's parts lie -/
structure Lay where
  cl : Addr
  po : Addr
  re : Addr
  lb : Addr
  lc : Addr
  la : Addr
  b : Nat → Addr
  k : Nat → Addr
  kl : Nat → Addr
  a : Nat → Addr
def clF (L : Lay) (c : Kp423.Client) : List (Str × V) := [("seed", .int (c.seed : Int)), ("balancer", .int (c.policy.balancer : Int)), ("policy", .ref L.po), ("now", .int (c.now : Int)), ("tokens", .int (c.tokens : Int)), ("pointer", .int (c.pointer : Int)),
  ("backends", .ref L.lb), ("calls", .ref L.lc), ("attempts", .ref L.la), ("retry_count", .int (c.retryCount : Int)), ("hedge_count", .int (c.hedgeCount : Int)), ("transparent_count", .int (c.transparentCount : Int))]
abbrev nb (c : Kp423.Client) : Nat := c.backends.length
abbrev nc (c : Kp423.Client) : Nat := c.calls.length
abbrev na (c : Kp423.Client) : Nat := c.attempts.length
open Hm (attsOf)
structure Rep (K : PySem.W.Frag) (H : Hp) (L : Lay) (c : Kp423.Client) : Prop where
  cl : InsAt K H L.cl "Client" (clF L c)
  po : PoAt K H L.po L.re c.policy
  re : H L.re = some (.lst (natL c.policy.retryable))
  lb : H L.lb = some (.lst (baL (List.range (nb c)) L.b))
  lc : H L.lc = some (.lst (baL (List.range (nc c)) L.k))
  la : H L.la = some (.lst (baL (List.range (na c)) L.a))
  b : ∀ i, i < nb c → BaAt K H (L.b i) i (Kp423.backendAt c i)
  k : ∀ i, i < nc c → CaAt K H (L.k i) i (L.kl i) (Kp423.callAt c i)
  kl : ∀ i, i < nc c → H (L.kl i) = some (.lst (baL (attsOf c i) L.a))
  a : ∀ j, j < na c → AtAt K H (L.a j) j (L.k (Kp423.attemptAt c j).call) (L.b (Kp423.attemptAt c j).backend) (Kp423.attemptAt c j)
  s1 : L.re ≠ L.lb ∧ L.re ≠ L.lc ∧ L.re ≠ L.la ∧ L.lb ≠ L.lc ∧ L.lb ≠ L.la ∧ L.lc ≠ L.la
  s2 : ∀ i, i < nc c → L.kl i ≠ L.re ∧ L.kl i ≠ L.lb ∧ L.kl i ≠ L.lc ∧ L.kl i ≠ L.la
  s3 : ∀ i j, i < nc c → j < nc c → i ≠ j → L.kl i ≠ L.kl j
def Tr (L : Lay) (c : Kp423.Client) (p : Addr) : Prop := p = L.cl ∨ p = L.po ∨ p = L.re ∨ p = L.lb ∨ p = L.lc ∨ p = L.la ∨ (∃ i, i < nb c ∧ p = L.b i) ∨ (∃ i, i < nc c ∧ (p = L.k i ∨ p = L.kl i)) ∨ ∃ j, j < na c ∧ p = L.a j
structure Le (L : Lay) (c : Kp423.Client) (L' : Lay) (c' : Kp423.Client) : Prop where
  cl : L'.cl = L.cl
  nb : nb c ≤ nb c'
  nc : nc c ≤ nc c'
  na : na c ≤ na c'
  b : ∀ i, i < Hc.nb c → L'.b i = L.b i
  k : ∀ i, i < Hc.nc c → L'.k i = L.k i
  a : ∀ i, i < Hc.na c → L'.a i = L.a i
structure Go (K : PySem.W.Frag) (H : Hp) (L : Lay) (c : Kp423.Client) (H' : Hp) (L' : Lay) (c' : Kp423.Client) : Prop where
  rep : Rep K H' L' c'
  old : ∀ p o, H p = some o → ¬ Tr L c p → H' p = some o ∧ ¬ Tr L' c' p
  le : Le L c L' c'
theorem Le.refl (L : Lay) (c : Kp423.Client) : Le L c L c := ⟨rfl, Nat.le_refl _, Nat.le_refl _, Nat.le_refl _, fun _ _ => rfl, fun _ _ => rfl, fun _ _ => rfl⟩
theorem Le.trans {L1 L2 L3 : Lay} {c1 c2 c3 : Kp423.Client} (h : Le L1 c1 L2 c2) (g : Le L2 c2 L3 c3) : Le L1 c1 L3 c3 :=
  ⟨g.cl.trans h.cl, Nat.le_trans h.nb g.nb, Nat.le_trans h.nc g.nc, Nat.le_trans h.na g.na, fun i hi => (g.b i (Nat.lt_of_lt_of_le hi h.nb)).trans (h.b i hi), fun i hi => (g.k i (Nat.lt_of_lt_of_le hi h.nc)).trans (h.k i hi), fun i hi => (g.a i (Nat.lt_of_lt_of_le hi h.na)).trans (h.a i hi)⟩
section
variable {P : Program} {w : World} {K : PySem.W.Frag} {mg : Str → Option Value} {base : Heap} {H H' H2 : Hp} {L L' Ln : Lay} {c c' c2 : Kp423.Client}
theorem Rep.ex (R : Rep K H L c) (e : Ex H H') : Rep K H' L c := ⟨R.cl.ex e, R.po.ex e, e _ _ R.re, e _ _ R.lb, e _ _ R.lc, e _ _ R.la, fun i h => (R.b i h).ex e, fun i h => (R.k i h).ex e, fun i h => e _ _ (R.kl i h), fun i h => (R.a i h).ex e, R.s1, R.s2, R.s3⟩
theorem Go.refl (R : Rep K H L c) : Go K H L c H L c := ⟨R, fun p o h n => ⟨h, n⟩, Le.refl L c⟩
theorem Go.trans (g : Go K H L c H' L' c') (k : Go K H' L' c' H2 Ln c2) : Go K H L c H2 Ln c2 := ⟨k.rep, fun p o h n => k.old p o (g.old p o h n).1 (g.old p o h n).2, g.le.trans k.le⟩
theorem Go.ex (R : Rep K H L c) (e : Ex H H') : Go K H L c H' L c := ⟨R.ex e, fun p o h n => ⟨e _ _ h, n⟩, Le.refl L c⟩
theorem Go.after (e : Ex H H') (R : Rep K H L c) (k : Go K H' L c H2 Ln c2) : Go K H L c H2 Ln c2 := (Go.ex R e).trans k
theorem Go.then (g : Go K H L c H' L' c') (e : Ex H' H2) : Go K H L c H2 L' c' := g.trans (Go.ex g.rep e)
/-! two objects of unlike attributes lie apart -/
theorem ins_ne {a b : Addr} {x y : Str} {fs gs : List (Str × V)} (h1 : InsAt K H a x fs) (h2 : InsAt K H b y gs) (n : fs.map Prod.fst ≠ gs.map Prod.fst) : a ≠ b := by
  obtain ⟨d1, h1⟩ := h1
  obtain ⟨d2, h2⟩ := h2
  exact ne_of h1 h2 fun z => n (by injection z with _ _ z; rw [z])
theorem ins_lst {a b : Addr} {x : Str} {fs : List (Str × V)} {xs : List V} (h1 : InsAt K H a x fs) (h2 : H b = some (.lst xs)) : a ≠ b := by
  obtain ⟨d1, h1⟩ := h1
  exact ne_of h1 h2 (by intro z; cases z)
theorem InsAt.keep {a p : Addr} {x : Str} {fs : List (Str × V)} (h : InsAt K H a x fs) (f : At1 H p H') (n : a ≠ p) : InsAt K H' a x fs := by
  obtain ⟨d, h⟩ := h
  exact ⟨d, f _ _ h n⟩
def kCl : List Str := ["seed", "balancer", "policy", "now", "tokens", "pointer", "backends", "calls", "attempts", "retry_count", "hedge_count", "transparent_count"]
def kPo : List Str := ["max_attempts", "initial_backoff", "max_backoff", "multiplier", "hedge_delay", "threshold", "ejection_time", "ejection_percent", "max_tokens", "refund", "retryable"]
def kBa : List Str := ["number", "weight", "current", "outstanding", "failures", "ejections", "ejected_until", "is_active"]
def kCa : List Str := ["number", "deadline", "is_idempotent", "key", "counted", "retries", "has_transparent", "retry_at", "hedge_at", "final", "finished_at", "attempts"]
def kAt : List Str := ["number", "call", "backend", "place", "started_at", "state", "status"]
theorem ne_clpo (h1 : InsAt K H L.cl "Client" (clF L c)) {a re : Addr} {p : Kp423.Policy} (h2 : PoAt K H a re p) : L.cl ≠ a := ins_ne h1 h2 (by show kCl ≠ kPo; decide +kernel)
theorem ne_clba (h1 : InsAt K H L.cl "Client" (clF L c)) {a : Addr} {i : Nat} {b : Kp423.Backend} (h2 : BaAt K H a i b) : L.cl ≠ a := ins_ne h1 h2 (by show kCl ≠ kBa; decide +kernel)
theorem ne_clca (h1 : InsAt K H L.cl "Client" (clF L c)) {a kl : Addr} {i : Nat} {x : Kp423.RemoteCall} (h2 : CaAt K H a i kl x) : L.cl ≠ a := ins_ne h1 h2 (by show kCl ≠ kCa; decide +kernel)
theorem ne_clat (h1 : InsAt K H L.cl "Client" (clF L c)) {a ck bk : Addr} {i : Nat} {x : Kp423.Attempt} (h2 : AtAt K H a i ck bk x) : L.cl ≠ a := ins_ne h1 h2 (by show kCl ≠ kAt; decide +kernel)
theorem ne_poba {a re : Addr} {p : Kp423.Policy} (h1 : PoAt K H a re p) {a2 : Addr} {i : Nat} {b : Kp423.Backend} (h2 : BaAt K H a2 i b) : a ≠ a2 := ins_ne h1 h2 (by show kPo ≠ kBa; decide +kernel)
theorem ne_poca {a re : Addr} {p : Kp423.Policy} (h1 : PoAt K H a re p) {a2 kl : Addr} {i : Nat} {x : Kp423.RemoteCall} (h2 : CaAt K H a2 i kl x) : a ≠ a2 := ins_ne h1 h2 (by show kPo ≠ kCa; decide +kernel)
theorem ne_poat {a re : Addr} {p : Kp423.Policy} (h1 : PoAt K H a re p) {a2 ck bk : Addr} {i : Nat} {x : Kp423.Attempt} (h2 : AtAt K H a2 i ck bk x) : a ≠ a2 := ins_ne h1 h2 (by show kPo ≠ kAt; decide +kernel)
theorem ne_baca {a : Addr} {j : Nat} {b : Kp423.Backend} (h1 : BaAt K H a j b) {a2 kl : Addr} {i : Nat} {x : Kp423.RemoteCall} (h2 : CaAt K H a2 i kl x) : a ≠ a2 := ins_ne h1 h2 (by show kBa ≠ kCa; decide +kernel)
theorem ne_atba {a ck bk : Addr} {j : Nat} {x : Kp423.Attempt} (h1 : AtAt K H a j ck bk x) {a2 : Addr} {i : Nat} {b : Kp423.Backend} (h2 : BaAt K H a2 i b) : a ≠ a2 := ins_ne h1 h2 (by show kAt ≠ kBa; decide +kernel)
theorem ne_atca {a ck bk : Addr} {j : Nat} {y : Kp423.Attempt} (h1 : AtAt K H a j ck bk y) {a2 kl : Addr} {i : Nat} {x : Kp423.RemoteCall} (h2 : CaAt K H a2 i kl x) : a ≠ a2 := ins_ne h1 h2 (by show kAt ≠ kCa; decide +kernel)
theorem num_ne {a a2 : Addr} {x y : Str} {i j : Nat} {r s : List (Str × V)} (h1 : InsAt K H a x (("number", .int (i : Int)) :: r)) (h2 : InsAt K H a2 y (("number", .int (j : Int)) :: s)) (n : i ≠ j) : a ≠ a2 := by
  obtain ⟨d1, h1⟩ := h1
  obtain ⟨d2, h2⟩ := h2
  refine ne_of h1 h2 fun z => n ?_
  injection z with _ _ z
  injection z with z _
  injection z with _ z
  injection z with z
  exact Int.ofNat.inj z
/-- the same lists, counts and places: what one object's new attributes give -/
theorem go_of (R : Rep K H L c) (R' : Rep K H' L c') (eb : nb c' = nb c) (ec : nc c' = nc c) (ea : na c' = na c) (f : ∀ p o, H p = some o → ¬ Tr L c p → H' p = some o) : Go K H L c H' L c' := by
  refine ⟨R', fun p o h n => ⟨f p o h n, fun t => n ?_⟩, rfl, Nat.le_of_eq eb.symm, Nat.le_of_eq ec.symm, Nat.le_of_eq ea.symm, fun _ _ => rfl, fun _ _ => rfl, fun _ _ => rfl⟩
  unfold Tr at t ⊢
  rw [eb, ec, ea] at t
  exact t
/-- the client's own attributes -/
theorem go_cl (R : Rep K H L c) (f : At1 H L.cl H') (h : InsAt K H' L.cl "Client" (clF L c')) (ep : c'.policy = c.policy) (eb : c'.backends = c.backends) (ec : c'.calls = c.calls) (ea : c'.attempts = c.attempts) : Go K H L c H' L c' := by
  have fl : ∀ {a : Addr} {xs : List V}, H a = some (.lst xs) → H' a = some (.lst xs) := fun h => f _ _ h (ins_lst R.cl h).symm
  have nb' : nb c' = nb c := congrArg List.length eb
  have nc' : nc c' = nc c := congrArg List.length ec
  have na' : na c' = na c := congrArg List.length ea
  refine go_of R ⟨h, ?_, ?_, ?_, ?_, ?_, ?_, ?_, ?_, ?_, R.s1, by rw [nc']; exact R.s2, by rw [nc']; exact R.s3⟩ nb' nc' na' fun p o q n => f p o q fun z => n (.inl z)
  · rw [ep]
    exact R.po.keep f (ne_clpo R.cl R.po).symm
  · rw [ep]
    exact fl R.re
  · rw [nb']
    exact fl R.lb
  · rw [nc']
    exact fl R.lc
  · rw [na']
    exact fl R.la
  · rw [nb']
    unfold Kp423.backendAt
    rw [eb]
    exact fun i hi => (R.b i hi).keep f (ne_clba R.cl (R.b i hi)).symm
  · rw [nc']
    unfold Kp423.callAt
    rw [ec]
    exact fun i hi => (R.k i hi).keep f (ne_clca R.cl (R.k i hi)).symm
  · rw [nc']
    unfold attsOf Kp423.attemptAt
    rw [ea]
    exact fun i hi => fl (R.kl i hi)
  · rw [na']
    unfold Kp423.attemptAt
    rw [ea]
    exact fun i hi => (R.a i hi).keep f (ne_clat R.cl (R.a i hi)).symm
/-- the backends -/
theorem go_bas (R : Rep K H L c) (f : ∀ q o, H q = some o → (∀ i, i < nb c → q ≠ L.b i) → H' q = some o) (h : ∀ i, i < nb c → BaAt K H' (L.b i) i (Kp423.backendAt c' i)) (hl : nb c' = nb c) (hx : { c' with backends := c.backends } = c) : Go K H L c H' L c' := by
  have ex : ∀ {β : Type} (g : Kp423.Client → β), g { c' with backends := c.backends } = g c := fun g => congrArg g hx
  have ep : c'.policy = c.policy := ex Kp423.Client.policy
  have ec : c'.calls = c.calls := ex Kp423.Client.calls
  have ea : c'.attempts = c.attempts := ex Kp423.Client.attempts
  have fl : ∀ {a : Addr} {xs : List V}, H a = some (.lst xs) → H' a = some (.lst xs) := fun h => f _ _ h fun i hi => (ins_lst (R.b i hi) h).symm
  have fi : ∀ {a : Addr} {x : Str} {fs : List (Str × V)}, InsAt K H a x fs → (∀ i, i < nb c → a ≠ L.b i) → InsAt K H' a x fs := fun ⟨d, h⟩ n => ⟨d, f _ _ h n⟩
  have nc' : nc c' = nc c := congrArg List.length ec
  have na' : na c' = na c := congrArg List.length ea
  refine go_of R ⟨?_, ?_, ?_, ?_, ?_, ?_, fun i hi => h i (hl ▸ hi), ?_, ?_, ?_, R.s1, by rw [nc']; exact R.s2, by rw [nc']; exact R.s3⟩ hl nc' na' fun p o q n => f p o q fun i hi z => n (.inr (.inr (.inr (.inr (.inr (.inr (.inl ⟨i, hi, z⟩)))))))
  · have e : clF L c' = clF L c := ex (clF L)
    rw [e]
    exact fi R.cl fun i hi => ne_clba R.cl (R.b i hi)
  · rw [ep]
    exact fi R.po fun i hi => ne_poba R.po (R.b i hi)
  · rw [ep]
    exact fl R.re
  · rw [hl]
    exact fl R.lb
  · rw [nc']
    exact fl R.lc
  · rw [na']
    exact fl R.la
  · rw [nc']
    unfold Kp423.callAt
    rw [ec]
    exact fun i hi => fi (R.k i hi) fun j hj => (ne_baca (R.b j hj) (R.k i hi)).symm
  · rw [nc']
    unfold attsOf Kp423.attemptAt
    rw [ea]
    exact fun i hi => fl (R.kl i hi)
  · rw [na']
    unfold Kp423.attemptAt
    rw [ea]
    exact fun i hi => fi (R.a i hi) fun j hj => ne_atba (R.a i hi) (R.b j hj)
theorem bk_same {i : Nat} {b : Kp423.Backend} (h : i < nb c) : Kp423.backendAt (Kp423.setBackend c i b) i = b := by
  unfold Kp423.backendAt Kp423.setBackend
  rw [List.getD_eq_getElem?_getD, List.getElem?_set_self h]
  rfl
theorem bk_ne {i j : Nat} {b : Kp423.Backend} (h : j ≠ i) : Kp423.backendAt (Kp423.setBackend c i b) j = Kp423.backendAt c j := by
  unfold Kp423.backendAt Kp423.setBackend
  rw [List.getD_eq_getElem?_getD, List.getD_eq_getElem?_getD, List.getElem?_set_ne (fun z => h z.symm)]
theorem ca_same {i : Nat} {x : Kp423.RemoteCall} (h : i < nc c) : Kp423.callAt (Kp423.setCall c i x) i = x := by
  unfold Kp423.callAt Kp423.setCall
  rw [List.getD_eq_getElem?_getD, List.getElem?_set_self h]
  rfl
theorem ca_ne {i j : Nat} {x : Kp423.RemoteCall} (h : j ≠ i) : Kp423.callAt (Kp423.setCall c i x) j = Kp423.callAt c j := by
  unfold Kp423.callAt Kp423.setCall
  rw [List.getD_eq_getElem?_getD, List.getD_eq_getElem?_getD, List.getElem?_set_ne (fun z => h z.symm)]
theorem at_same {i : Nat} {x : Kp423.Attempt} (h : i < na c) : Kp423.attemptAt (Kp423.setAttempt c i x) i = x := by
  unfold Kp423.attemptAt Kp423.setAttempt
  rw [List.getD_eq_getElem?_getD, List.getElem?_set_self h]
  rfl
theorem at_ne {i j : Nat} {x : Kp423.Attempt} (h : j ≠ i) : Kp423.attemptAt (Kp423.setAttempt c i x) j = Kp423.attemptAt c j := by
  unfold Kp423.attemptAt Kp423.setAttempt
  rw [List.getD_eq_getElem?_getD, List.getD_eq_getElem?_getD, List.getElem?_set_ne (fun z => h z.symm)]
theorem setB_len {i : Nat} {b : Kp423.Backend} : nb (Kp423.setBackend c i b) = nb c := List.length_set
theorem setC_len {i : Nat} {b : Kp423.RemoteCall} : nc (Kp423.setCall c i b) = nc c := List.length_set
theorem setA_len {i : Nat} {b : Kp423.Attempt} : na (Kp423.setAttempt c i b) = na c := List.length_set
theorem go_ba {i : Nat} {b : Kp423.Backend} (R : Rep K H L c) (hi : i < nb c) (h : BaTo K H (L.b i) i b H') : Go K H L c H' L (Kp423.setBackend c i b) := by
  refine go_bas R (fun q o hq n => h.2 q o hq (n i hi)) (fun j hj => ?_) setB_len rfl
  by_cases e : j = i
  · subst e
    rw [bk_same hj]
    exact h.1
  · rw [bk_ne e]
    obtain ⟨d, q⟩ := R.b j hj
    exact ⟨d, h.2 _ _ q (num_ne (R.b j hj) (R.b i hi) e)⟩
/-- a call -/
theorem go_ca {i : Nat} {x : Kp423.RemoteCall} (R : Rep K H L c) (hi : i < nc c) (h : CaAt K H' (L.k i) i (L.kl i) x) (f : At1 H (L.k i) H') : Go K H L c H' L (Kp423.setCall c i x) := by
  have fl : ∀ {a : Addr} {xs : List V}, H a = some (.lst xs) → H' a = some (.lst xs) := fun h => f _ _ h (ins_lst (R.k i hi) h).symm
  refine go_of R ⟨?_, ?_, fl R.re, fl R.lb, ?_, fl R.la, ?_, ?_, ?_, ?_, R.s1, by rw [setC_len]; exact R.s2, by rw [setC_len]; exact R.s3⟩ rfl setC_len rfl fun p o q n => f p o q fun z => n (.inr (.inr (.inr (.inr (.inr (.inr (.inr (.inl ⟨i, hi, .inl z⟩))))))))
  · exact R.cl.keep f (ne_clca R.cl (R.k i hi))
  · exact R.po.keep f (ne_poca R.po (R.k i hi))
  · rw [setC_len]
    exact fl R.lc
  · exact fun j hj => (R.b j hj).keep f (ne_baca (R.b j hj) (R.k i hi))
  · intro j hj
    rw [setC_len] at hj
    by_cases e : j = i
    · subst e
      rw [ca_same hj]
      exact h
    · rw [ca_ne e]
      exact (R.k j hj).keep f (num_ne (R.k j hj) (R.k i hi) e)
  · intro j hj
    rw [setC_len] at hj
    exact fl (R.kl j hj)
  · exact fun j hj => (R.a j hj).keep f (ne_atca (R.a j hj) (R.k i hi))
/-- an attempt, its call and backend the same -/
theorem atts_set {j i : Nat} {a : Kp423.Attempt} (hc : a.call = (Kp423.attemptAt c j).call) (hj : j < na c) : attsOf (Kp423.setAttempt c j a) i = attsOf c i := by
  unfold attsOf
  have e : (Kp423.setAttempt c j a).attempts.length = c.attempts.length := setA_len
  rw [e]
  refine List.filter_congr fun m hm => ?_
  by_cases e : m = j
  · subst e
    rw [at_same hj, hc]
  · rw [at_ne e]
theorem go_at {j : Nat} {a : Kp423.Attempt} (R : Rep K H L c) (hj : j < na c) (hc : a.call = (Kp423.attemptAt c j).call) (hb : a.backend = (Kp423.attemptAt c j).backend) (h : AtAt K H' (L.a j) j (L.k (Kp423.attemptAt c j).call) (L.b (Kp423.attemptAt c j).backend) a) (f : At1 H (L.a j) H') : Go K H L c H' L (Kp423.setAttempt c j a) := by
  have fl : ∀ {a : Addr} {xs : List V}, H a = some (.lst xs) → H' a = some (.lst xs) := fun h => f _ _ h (ins_lst (R.a j hj) h).symm
  refine go_of R ⟨?_, ?_, fl R.re, fl R.lb, fl R.lc, ?_, ?_, ?_, ?_, ?_, R.s1, R.s2, R.s3⟩ rfl rfl setA_len fun p o q n => f p o q fun z => n (.inr (.inr (.inr (.inr (.inr (.inr (.inr (.inr ⟨j, hj, z⟩))))))))
  · exact R.cl.keep f (ne_clat R.cl (R.a j hj))
  · exact R.po.keep f (ne_poat R.po (R.a j hj))
  · rw [setA_len]
    exact fl R.la
  · exact fun i hi => (R.b i hi).keep f (ne_atba (R.a j hj) (R.b i hi)).symm
  · exact fun i hi => (R.k i hi).keep f (ne_atca (R.a j hj) (R.k i hi)).symm
  · intro i hi
    rw [atts_set hc hj]
    exact fl (R.kl i hi)
  · intro m hm
    rw [setA_len] at hm
    by_cases e : m = j
    · subst e
      rw [at_same hm, hc, hb]
      exact h
    · rw [at_ne e]
      exact (R.a m hm).keep f (num_ne (R.a m hm) (R.a j hj) e)
/-! ### what the client's attributes give -/
section
variable {σ : L2.St} {ta : TE} (T : Tx K mg) (h : Ev ta σ H (.ref L.cl)) (R : Rep K H L c)
include T h R
theorem rL_seed : Ev (tFld K ta "seed") σ H (.int (c.seed : Int)) := by
  obtain ⟨dx, hb⟩ := R.cl
  exact ev_fld h hb T.c_Client T.n_Client_seed rfl
theorem rL_balancer : Ev (tFld K ta "balancer") σ H (.int (c.policy.balancer : Int)) := by
  obtain ⟨dx, hb⟩ := R.cl
  exact ev_fld h hb T.c_Client T.n_Client_balancer rfl
theorem rL_policy : Ev (tFld K ta "policy") σ H (.ref L.po) := by
  obtain ⟨dx, hb⟩ := R.cl
  exact ev_fld h hb T.c_Client T.n_Client_policy rfl
theorem rL_now : Ev (tFld K ta "now") σ H (.int (c.now : Int)) := by
  obtain ⟨dx, hb⟩ := R.cl
  exact ev_fld h hb T.c_Client T.n_Client_now rfl
theorem rL_tokens : Ev (tFld K ta "tokens") σ H (.int (c.tokens : Int)) := by
  obtain ⟨dx, hb⟩ := R.cl
  exact ev_fld h hb T.c_Client T.n_Client_tokens rfl
theorem rL_pointer : Ev (tFld K ta "pointer") σ H (.int (c.pointer : Int)) := by
  obtain ⟨dx, hb⟩ := R.cl
  exact ev_fld h hb T.c_Client T.n_Client_pointer rfl
theorem rL_backends : Ev (tFld K ta "backends") σ H (.ref L.lb) := by
  obtain ⟨dx, hb⟩ := R.cl
  exact ev_fld h hb T.c_Client T.n_Client_backends rfl
theorem rL_calls : Ev (tFld K ta "calls") σ H (.ref L.lc) := by
  obtain ⟨dx, hb⟩ := R.cl
  exact ev_fld h hb T.c_Client T.n_Client_calls rfl
theorem rL_attempts : Ev (tFld K ta "attempts") σ H (.ref L.la) := by
  obtain ⟨dx, hb⟩ := R.cl
  exact ev_fld h hb T.c_Client T.n_Client_attempts rfl
theorem rL_retryCount : Ev (tFld K ta "retry_count") σ H (.int (c.retryCount : Int)) := by
  obtain ⟨dx, hb⟩ := R.cl
  exact ev_fld h hb T.c_Client T.n_Client_retry_count rfl
theorem rL_hedgeCount : Ev (tFld K ta "hedge_count") σ H (.int (c.hedgeCount : Int)) := by
  obtain ⟨dx, hb⟩ := R.cl
  exact ev_fld h hb T.c_Client T.n_Client_hedge_count rfl
theorem rL_transparentCount : Ev (tFld K ta "transparent_count") σ H (.int (c.transparentCount : Int)) := by
  obtain ⟨dx, hb⟩ := R.cl
  exact ev_fld h hb T.c_Client T.n_Client_transparent_count rfl
end
/-! ### stores -/
section
variable {σ : L2.St} {ta tb : TE} {D : Ends} {tz : TS} {v : V} {f : Str}
theorem s_cl (c' : Kp423.Client) (T : Tx K mg) (R : Rep K H L c) (hv : Ev tb σ H v) (h : Ev ta σ H (.ref L.cl)) (n : NoAttr K (He.ga K "Client") f) (e : putF f v (clF L c) = clF L c') (k : ∀ H1, Go K H L c H1 L c' → D.nx σ H1)
    (ep : c'.policy = c.policy := by rfl) (eb : c'.backends = c.backends := by rfl) (ec : c'.calls = c.calls := by rfl) (ea : c'.attempts = c.attempts := by rfl) : sFld K ta tb f D σ H :=
  s_obj hv h R.cl T.c_Client n (by show 12 < 1000; decide) e fun H1 h1 f1 => k H1 (go_cl R f1 h1 ep eb ec ea)
theorem q_cl (c' : Kp423.Client) (T : Tx K mg) (R : Rep K H L c) (hv : Ev tb σ H v) (h : Ev ta σ H (.ref L.cl)) (n : NoAttr K (He.ga K "Client") f) (e : putF f v (clF L c) = clF L c') (k : ∀ H1, Go K H L c H1 L c' → tz D σ H1)
    (ep : c'.policy = c.policy := by rfl) (eb : c'.backends = c.backends := by rfl) (ec : c'.calls = c.calls := by rfl) (ea : c'.attempts = c.attempts := by rfl) : tSeq (sFld K ta tb f) tz D σ H :=
  s_cl (D := { D with nx := tz D }) c' T R hv h n e k ep eb ec ea
theorem s_bk {i : Nat} (b : Kp423.Backend) (T : Tx K mg) (R : Rep K H L c) (hi : i < nb c) (hv : Ev tb σ H v) (h : Ev ta σ H (.ref (L.b i))) (n : NoAttr K (He.ga K "Backend") f) (e : putF f v (baF i (Kp423.backendAt c i)) = baF i b) (k : ∀ H1, Go K H L c H1 L (Kp423.setBackend c i b) → D.nx σ H1) : sFld K ta tb f D σ H :=
  s_ba T hv h (R.b i hi) n e fun H1 b1 => k H1 (go_ba R hi b1)
theorem q_bk {i : Nat} (b : Kp423.Backend) (T : Tx K mg) (R : Rep K H L c) (hi : i < nb c) (hv : Ev tb σ H v) (h : Ev ta σ H (.ref (L.b i))) (n : NoAttr K (He.ga K "Backend") f) (e : putF f v (baF i (Kp423.backendAt c i)) = baF i b) (k : ∀ H1, Go K H L c H1 L (Kp423.setBackend c i b) → tz D σ H1) : tSeq (sFld K ta tb f) tz D σ H :=
  s_bk (D := { D with nx := tz D }) b T R hi hv h n e k
theorem s_ck {i : Nat} (x : Kp423.RemoteCall) (T : Tx K mg) (R : Rep K H L c) (hi : i < nc c) (hv : Ev tb σ H v) (h : Ev ta σ H (.ref (L.k i))) (n : NoAttr K (He.ga K "Call") f) (e : putF f v (caF i (L.kl i) (Kp423.callAt c i)) = caF i (L.kl i) x) (k : ∀ H1, Go K H L c H1 L (Kp423.setCall c i x) → D.nx σ H1) : sFld K ta tb f D σ H :=
  s_obj hv h (R.k i hi) T.c_Call n (by show 12 < 1000; decide) e fun H1 h1 f1 => k H1 (go_ca R hi h1 f1)
theorem q_ck {i : Nat} (x : Kp423.RemoteCall) (T : Tx K mg) (R : Rep K H L c) (hi : i < nc c) (hv : Ev tb σ H v) (h : Ev ta σ H (.ref (L.k i))) (n : NoAttr K (He.ga K "Call") f) (e : putF f v (caF i (L.kl i) (Kp423.callAt c i)) = caF i (L.kl i) x) (k : ∀ H1, Go K H L c H1 L (Kp423.setCall c i x) → tz D σ H1) : tSeq (sFld K ta tb f) tz D σ H :=
  s_ck (D := { D with nx := tz D }) x T R hi hv h n e k
end
end
end Hc
namespace Hc
open PySem PySem.Spec PyProof.Rows L2 Evl
open Hm (attsOf)
section
variable {P : Program} {w : World} {K : PySem.W.Frag} {mg : Str → Option Value} {base : Heap}
/-! ### what the client tells, nothing changed -/
def spLst (K : PySem.W.Frag) (f : Lay → Kp423.Client → List V) : Sp := sp1 fun x H Q _ => ∃ (L : Lay) (c : Kp423.Client), x = .ref L.cl ∧ Rep K H L c ∧ Hm.Wf c ∧ RetL (f L c) H Q
def spVal (K : PySem.W.Frag) (f : Kp423.Client → V) : Sp := sp1 fun x H Q _ => ∃ (L : Lay) (c : Kp423.Client), x = .ref L.cl ∧ Rep K H L c ∧ Hm.Wf c ∧ RetV (f c) H Q
section
variable {H : Hp} {σ : L2.St} {ta tb : TE} {t : TT} {E : XK} {Q : VK} {L : Lay} {c : Kp423.Client} {m : Str}
theorem el_mt {f : Lay → Kp423.Client → List V} (h : Ev ta σ H (.ref L.cl)) (R : Rep K H L c) (W : Hm.Wf c) (hm : (clF L c).lookup m = none) : EvL (tMeth (He.ga K "Client") m (spLst K f) [] E ta tNil) σ H (f L c) := by
  obtain ⟨dx, hd⟩ := R.cl
  exact el_meth h hd hm ea_nil (spL_of fun H2 e2 Q E r => ⟨_, rfl, L, c, rfl, R.ex e2, W, r⟩)
theorem ev_mt {f : Kp423.Client → V} (h : Ev ta σ H (.ref L.cl)) (R : Rep K H L c) (W : Hm.Wf c) (hm : (clF L c).lookup m = none) : Ev (tMeth (He.ga K "Client") m (spVal K f) [] E ta tNil) σ H (f c) := by
  obtain ⟨dx, hd⟩ := R.cl
  exact ev_meth h hd hm ea_nil (spV_of fun H2 e2 Q E r => ⟨_, rfl, L, c, rfl, R.ex e2, W, r⟩)
theorem x_if {b : Bool} (h : EvT t σ H b) (h1 : b = true → ∀ H1, Ex H H1 → ta σ H1 Q) (h2 : b = false → ∀ H1, Ex H H1 → tb σ H1 Q) : tIf t ta tb σ H Q := h H (Ex.refl H) _ fun H1 e1 => by
  cases b with
  | true => exact h1 rfl H1 e1
  | false => exact h2 rfl H1 e1
end
theorem Rep.ats {H : Hp} {L : Lay} {c : Kp423.Client} (R : Rep K H L c) {l : List Nat} (h : ∀ j ∈ l, j < na c) : Ats K H l L.a (Kp423.attemptAt c) L.k L.b := ⟨fun j hj => R.a j (h j hj)⟩
theorem rng {n i : Nat} (h : i ∈ List.range n) : i < n := List.mem_range.mp h
abbrev activeV (L : Lay) (c : Kp423.Client) : List V := baL (Kp423.activeBackends c) L.b
theorem sc_Client_active : FnScope ["self", "backend"] ["self"] (defScope s_Client_active) := ⟨rfl, rfl, rfl, by decide +kernel, rfl, by decide +kernel, by decide +kernel⟩
theorem ok_Client_active (T : Tx K mg) : Ok P w K mg base CX0 1 (He.ma K (He.ga K "Client") "active") ["self"] (spLst K activeV) := by
  obtain ⟨fd, F0⟩ := T.def_ 28 (d := d_Client_active) rfl
  have F : FunD K "active" "Client.active" (defArgs s_Client_active) (defBody s_Client_active) (defScope s_Client_active) [] [] (He.ma K (He.ga K "Client") "active") fd := F0
  refine ⟨fd, F.ok sc_Client_active sp1_len (fun cdv A outer s H vs Q E hr h => ?_), F.kp, F.bindsN fun _ _ _ _ _ _ us hl => match us, hl with | [_], _ => rfl⟩
  refine ⟨_, PSs.nox (pss_one (ps_ret (pe_lc (own := [("backend", 1)]) (g := (gName 1)) (tt := (tB (tFld K (tVar 1) "is_active"))) (te := (tVar 1)) rfl sc_Client_active.nd (pi_list (pe_fld (pv 0) rfl)) (blkOk_by (own := [("backend", 1)]) (N := ["self", "backend"]) (sc := defScope s_Client_active) (by decide +kernel)) (fun _ _ _ _ _ => by exact (pg_name (i := 1) sc_Client_active.nd rfl (Or.inl rfl))) (fun _ _ _ _ _ => by exact (pts_one (pt_val (pe_fld (pv 1) rfl)))) (fun _ _ _ _ _ => by exact (pv 1))))), ?_⟩
  obtain ⟨_, rfl, L, c, rfl, R, W, k⟩ := h
  exact s_retL (el_lcM (K := K) (List.range (nb c)) (fun i => V.ref (L.b i)) (fun i => (Kp423.backendAt c i).active) (fun i => V.ref (L.b i)) (rL_backends T (ev_var rfl) R) (sq_of R.lb) (by rw [List.length_range]; have := W.nb8; exact Nat.le_trans this (by decide)) (fun _ => rfl)
    (fun i hi H1 e1 => et_B (rB_active T (ev_var rfl) ((R.b i (rng hi)).ex e1))) fun i hi H1 e1 _ => ev_var rfl) k
abbrev availV (L : Lay) (c : Kp423.Client) : List V := baL (Kp423.availableBackends c) L.b
theorem ev_isAv {σ : L2.St} {H : Hp} {ta tb : TE} {E : XK} {a : Addr} {i now : Nat} {b : Kp423.Backend} (h : Ev ta σ H (.ref a)) (hn : Ev tb σ H (.int (now : Int))) (hb : BaAt K H a i b) : Ev (tMeth (He.ga K "Backend") "is_available" (spIsAv K) [] E ta (tCons tb tNil)) σ H (.bl (b.active && !ejd b now)) := by
  obtain ⟨dx, hd⟩ := id hb
  exact ev_meth h hd rfl (ea_cons hn ea_nil) (spV_of fun H1 e1 Q E r => ⟨_, _, rfl, a, i, now, b, rfl, rfl, hb.ex e1, r⟩)
theorem ev_isEj {σ : L2.St} {H : Hp} {ta tb : TE} {E : XK} {a : Addr} {i now : Nat} {b : Kp423.Backend} (h : Ev ta σ H (.ref a)) (hn : Ev tb σ H (.int (now : Int))) (hb : BaAt K H a i b) : Ev (tMeth (He.ga K "Backend") "is_ejected" (spIsEj K) [] E ta (tCons tb tNil)) σ H (.bl (ejd b now)) := by
  obtain ⟨dx, hd⟩ := id hb
  exact ev_meth h hd rfl (ea_cons hn ea_nil) (spV_of fun H1 e1 Q E r => ⟨_, _, rfl, a, i, now, b, rfl, rfl, hb.ex e1, r⟩)
theorem ejd_is (c : Kp423.Client) (i : Nat) : ejd (Kp423.backendAt c i) c.now = Kp423.isEjected c i := rfl
theorem sc_Client_available : FnScope ["self", "backend"] ["self"] (defScope s_Client_available) := ⟨rfl, rfl, rfl, by decide +kernel, rfl, by decide +kernel, by decide +kernel⟩
theorem ok_Client_available (T : Tx K mg) : Ok P w K mg base CX0 3 (He.ma K (He.ga K "Client") "available") ["self"] (spLst K availV) := by
  obtain ⟨fd, F0⟩ := T.def_ 29 (d := d_Client_available) rfl
  have F : FunD K "available" "Client.available" (defArgs s_Client_available) (defBody s_Client_available) (defScope s_Client_available) [] [] (He.ma K (He.ga K "Client") "available") fd := F0
  refine ⟨fd, F.ok sc_Client_available sp1_len (fun cdv A outer s H vs Q E hr h => ?_), F.kp, F.bindsN fun _ _ _ _ _ _ us hl => match us, hl with | [_], _ => rfl⟩
  refine ⟨_, PSs.nox (pss_one (ps_ret (pe_lc (own := [("backend", 1)]) (g := (gName 1)) (tt := (tB (tMeth (He.ga K "Backend") "is_available" (spIsAv K) [] E0 (tVar 1) (tCons (tFld K (tVar 0) "now") tNil)))) (te := (tVar 1)) rfl sc_Client_available.nd (pi_list (pe_fld (pv 0) rfl)) (blkOk_by (own := [("backend", 1)]) (N := ["self", "backend"]) (sc := defScope s_Client_available) (by decide +kernel)) (fun _ _ _ _ _ => by exact (pg_name (i := 1) sc_Client_available.nd rfl (Or.inl rfl))) (fun _ _ _ _ _ => by exact (pts_one (pt_val (pe_methO (pv 1) T.c_Backend T.m_Backend_is_available (ok_Backend_is_available T) (hr.mono (by decide)) pass0 (pa_cons (pe_fld (pv 0) rfl) pa_nil))))) (fun _ _ _ _ _ => by exact (pv 1))))), ?_⟩
  obtain ⟨_, rfl, L, c, rfl, R, W, k⟩ := h
  have k2 : RetL (baL ((List.range (nb c)).filter fun i => (Kp423.backendAt c i).active && !ejd (Kp423.backendAt c i) c.now) L.b) H Q := by
    show RetL (baL ((List.range c.backends.length).filter fun i => (Kp423.backendAt c i).active && !Kp423.isEjected c i) L.b) H Q
    rw [Hm.avail_is]
    exact k
  exact s_retL (el_lcM (K := K) (List.range (nb c)) (fun i => V.ref (L.b i)) (fun i => (Kp423.backendAt c i).active && !ejd (Kp423.backendAt c i) c.now) (fun i => V.ref (L.b i)) (rL_backends T (ev_var rfl) R) (sq_of R.lb) (by rw [List.length_range]; have := W.nb8; exact Nat.le_trans this (by decide)) (fun _ => rfl)
    (fun i hi H1 e1 => et_B (ev_isAv (ev_var rfl) (rL_now T (ev_var rfl) (R.ex e1)) ((R.b i (rng hi)).ex e1))) fun i hi H1 e1 _ => ev_var rfl) k2
abbrev runV (L : Lay) (c : Kp423.Client) : List V := baL (Kp423.runningAttempts c) L.a
theorem na_z {c : Kp423.Client} (W : Hm.Wf c) : na c ≤ 40000 := Nat.le_trans W.few (by decide)
theorem sc_Client_running_now : FnScope ["self", "attempt"] ["self"] (defScope s_Client_running_now) := ⟨rfl, rfl, rfl, by decide +kernel, rfl, by decide +kernel, by decide +kernel⟩
theorem ok_Client_running_now (T : Tx K mg) : Ok P w K mg base CX0 1 (He.ma K (He.ga K "Client") "running_now") ["self"] (spLst K runV) := by
  obtain ⟨fd, F0⟩ := T.def_ 30 (d := d_Client_running_now) rfl
  have F : FunD K "running_now" "Client.running_now" (defArgs s_Client_running_now) (defBody s_Client_running_now) (defScope s_Client_running_now) [] [] (He.ma K (He.ga K "Client") "running_now") fd := F0
  refine ⟨fd, F.ok sc_Client_running_now sp1_len (fun cdv A outer s H vs Q E hr h => ?_), F.kp, F.bindsN fun _ _ _ _ _ _ us hl => match us, hl with | [_], _ => rfl⟩
  refine ⟨_, PSs.nox (pss_one (ps_ret (pe_lc (own := [("attempt", 1)]) (g := (gName 1)) (tt := (tTest (tOp rEq (tFld K (tVar 1) "state") (tC (.int (0)))))) (te := (tVar 1)) rfl sc_Client_running_now.nd (pi_list (pe_fld (pv 0) rfl)) (blkOk_by (own := [("attempt", 1)]) (N := ["self", "attempt"]) (sc := defScope s_Client_running_now) (by decide +kernel)) (fun _ _ _ _ _ => by exact (pg_name (i := 1) sc_Client_running_now.nd rfl (Or.inl rfl))) (fun _ _ _ _ _ => by exact (pts_one (pt_cmpR op_eq (pe_fld (pv 1) rfl) (pe_gi T.i_RUNNING) (nomark _)))) (fun _ _ _ _ _ => by exact (pv 1))))), ?_⟩
  obtain ⟨_, rfl, L, c, rfl, R, W, k⟩ := h
  exact s_retL (el_lcM (K := K) (List.range (na c)) (fun i => V.ref (L.a i)) (fun j => Kp423.isRunning (Kp423.attemptAt c j)) (fun i => V.ref (L.a i)) (rL_attempts T (ev_var rfl) R) (sq_of R.la) (by rw [List.length_range]; exact na_z W) (fun _ => rfl)
    (fun i hi H1 e1 => et_run T (ev_var rfl) ((R.a i (rng hi)).ex e1)) fun i hi H1 e1 _ => ev_var rfl) k
def alwV (c : Kp423.Client) : V := .bl (Kp423.budgetAllows c)
theorem sc_Client_is_allowed : FnScope ["self"] ["self"] (defScope s_Client_is_allowed) := ⟨rfl, rfl, rfl, by decide +kernel, rfl, by decide +kernel, by decide +kernel⟩
theorem ok_Client_is_allowed (T : Tx K mg) : Ok P w K mg base CX0 3 (He.ma K (He.ga K "Client") "is_allowed") ["self"] (spVal K alwV) := by
  obtain ⟨fd, F0⟩ := T.def_ 31 (d := d_Client_is_allowed) rfl
  have F : FunD K "is_allowed" "Client.is_allowed" (defArgs s_Client_is_allowed) (defBody s_Client_is_allowed) (defScope s_Client_is_allowed) [] [] (He.ma K (He.ga K "Client") "is_allowed") fd := F0
  refine ⟨fd, F.ok sc_Client_is_allowed sp1_len (fun cdv A outer s H vs Q E hr h => ?_), F.kp, F.bindsN fun _ _ _ _ _ _ us hl => match us, hl with | [_], _ => rfl⟩
  refine ⟨_, PSs.nox (pss_one (ps_ret (pe_methO (pe_fld (pv 0) rfl) T.c_Policy T.m_Policy_does_allow (ok_Policy_does_allow T) (hr.mono (by decide)) pass0 (pa_cons (pe_fld (pv 0) rfl) pa_nil)))), ?_⟩
  obtain ⟨_, rfl, L, c, rfl, R, W, k⟩ := h
  exact s_ret (ev_allow (rL_policy T (ev_var rfl) R) R.po (rL_tokens T (ev_var rfl) R)) k
abbrev genV (L : Lay) (c : Kp423.Client) : List V := baL (Hm.genB c) L.b
theorem sc_Client_general_candidates : FnScope ["self", "available"] ["self"] (defScope s_Client_general_candidates) := ⟨rfl, rfl, rfl, by decide +kernel, rfl, by decide +kernel, by decide +kernel⟩
theorem ok_Client_general_candidates (T : Tx K mg) : Ok P w K mg base CX0 4 (He.ma K (He.ga K "Client") "general_candidates") ["self"] (spLst K genV) := by
  obtain ⟨fd, F0⟩ := T.def_ 32 (d := d_Client_general_candidates) rfl
  have F : FunD K "general_candidates" "Client.general_candidates" (defArgs s_Client_general_candidates) (defBody s_Client_general_candidates) (defScope s_Client_general_candidates) [] [] (He.ma K (He.ga K "Client") "general_candidates") fd := F0
  refine ⟨fd, F.ok sc_Client_general_candidates sp1_len (fun cdv A outer s H vs Q E hr h => ?_), F.kp, F.bindsN fun _ _ _ _ _ _ us hl => match us, hl with | [_], _ => rfl⟩
  refine ⟨_, PSs.nox (pss_cons (ps_set (i := 1) sc_Client_general_candidates.nd rfl (Or.inl rfl) (pe_meth0O (pv 0) T.c_Client T.m_Client_available (ok_Client_available T) (hr.mono (by decide)) pass0)) (pss_one (ps_ret (pe_ifExp (pt_cmpR (op_eqE hr.units0) (pv 1) (pe_lst pa_nil) (nomark _)) (pe_meth0O (pv 0) T.c_Client T.m_Client_active (ok_Client_active T) (hr.mono (by decide)) pass0) (pv 1))))), ?_⟩
  obtain ⟨_, rfl, L, c, rfl, R, W, k⟩ := h
  refine q_asgL (el_mt (ev_var rfl) R W rfl) fun p H1 hp e1 h1 => s_retX (x_if (et_test (ev_empV (K := K) (neg := false) (ev_var rfl) (sq_of h1) fun _ _ => el_nil)) (fun hb H2 e2 => ?_) fun hb H2 e2 => ?_)
  · have e : genV L c = activeV L c := by
      unfold genV Hm.genB
      rw [if_pos (by simpa using hb)]
    rw [e] at k
    exact x_l (el_mt (ev_var rfl) (R.ex (e1.trans e2)) W rfl) fun p2 H3 hp2 e3 h3 => k p2 H3 (fresh_back (e1.trans e2) hp2) ((e1.trans e2).trans e3) h3
  · have e : genV L c = availV L c := by
      unfold genV Hm.genB
      rw [if_neg (by simpa using hb)]
    rw [e] at k
    exact x_v (ev_var rfl) fun H3 e3 => k p H3 hp ((e1.trans e2).trans e3) (e3 _ _ (e2 _ _ h1))
def spCand (K : PySem.W.Frag) : Sp := sp2 fun x y H Q _ => ∃ (L : Lay) (c : Kp423.Client) (i : Nat), x = .ref L.cl ∧ y = .ref (L.k i) ∧ Rep K H L c ∧ Hm.Wf c ∧ i < nc c ∧ RetL (baL (Kp423.candidates c (Kp423.triedBackends c i)) L.b) H Q
theorem gen_z {c : Kp423.Client} (W : Hm.Wf c) : (Hm.genB c).length ≤ 40000 := Nat.le_trans (Hm.gen_len c) (Nat.le_trans W.nb8 (by decide))
theorem sc_Client_candidates : FnScope ["self", "call", "general", "unused", "backend"] ["self", "call"] (defScope s_Client_candidates) := ⟨rfl, rfl, rfl, by decide +kernel, rfl, by decide +kernel, by decide +kernel⟩
theorem ok_Client_candidates (T : Tx K mg) : Ok P w K mg base CX0 5 (He.ma K (He.ga K "Client") "candidates") ["self", "call"] (spCand K) := by
  obtain ⟨fd, F0⟩ := T.def_ 33 (d := d_Client_candidates) rfl
  have F : FunD K "candidates" "Client.candidates" (defArgs s_Client_candidates) (defBody s_Client_candidates) (defScope s_Client_candidates) [] [] (He.ma K (He.ga K "Client") "candidates") fd := F0
  refine ⟨fd, F.ok sc_Client_candidates sp2_len (fun cdv A outer s H vs Q E hr h => ?_), F.kp, F.bindsN fun _ _ _ _ _ _ us hl => match us, hl with | [_, _], _ => rfl⟩
  refine ⟨_, PSs.nox (pss_cons (ps_set (i := 2) sc_Client_candidates.nd rfl (Or.inl rfl) (pe_meth0O (pv 0) T.c_Client T.m_Client_general_candidates (ok_Client_general_candidates T) (hr.mono (by decide)) pass0)) (pss_cons (ps_setLc (i := 3) (own := [("backend", 4)]) (g := (gName 4)) (tt := (tNot (tB (tMeth (He.ga K "Call") "has_used" (spHasUsed K) [] E0 (tVar 1) (tCons (tVar 4) tNil))))) (te := (tVar 4)) rfl sc_Client_candidates.nd rfl rfl (sw_true rfl rfl rfl (by decide +kernel)) (pi_list (pv 2)) (blkOk_by (own := [("backend", 4)]) (N := ["self", "call", "general", "unused", "backend"]) (sc := defScope s_Client_candidates) (by decide +kernel)) (fun _ _ _ _ _ => by exact (pg_name (i := 4) sc_Client_candidates.nd rfl (Or.inl rfl))) (fun _ _ _ _ _ => by exact (pts_one (pt_not (pt_val (pe_methO (pv 1) T.c_Call T.m_Call_has_used (ok_Call_has_used T) (hr.mono (by decide)) pass0 (pa_cons (pv 4) pa_nil)))))) (fun _ _ _ _ _ => by exact (pv 4))) (pss_one (ps_ret (pe_ifExp (pt_cmpR (op_eqE hr.units0) (pv 3) (pe_lst pa_nil) (nomark _)) (pv 2) (pv 3)))))), ?_⟩
  obtain ⟨_, _, rfl, L, c, i, rfl, rfl, R, W, hi, k⟩ := h
  refine q_asgL (el_mt (ev_var rfl) R W rfl) fun p H1 hp e1 h1 => ?_
  refine q_asgL (xs := baL ((Hm.genB c).filter fun n => !(Kp423.triedBackends c i).contains n) L.b) ?_ fun p2 H2 hp2 e2 h2 => s_retX (x_if (et_test (ev_empV (K := K) (neg := false) (ev_var rfl) (sq_of h2) fun _ _ => el_nil)) (fun hb H3 e3 => ?_) fun hb H3 e3 => ?_)
  · refine el_lcM (K := K) (Hm.genB c) (fun n => V.ref (L.b n)) (fun n => !(Kp423.triedBackends c i).contains n) (fun n => V.ref (L.b n)) (ev_var rfl) (sq_of h1) (gen_z W) (fun _ => rfl) (fun n hn H3 e3 => ?_) fun n hn H3 e3 _ => ev_var rfl
    have R3 := R.ex (e1.trans e3)
    obtain ⟨dx, hd⟩ := R3.k i hi
    have hn2 : n < nb c := Hm.active_lt (Hm.gen_sub hn)
    refine et_is (et_not (et_B (ev_meth (z := .bl ((attsOf c i).any fun j => decide ((Kp423.attemptAt c j).backend = n))) (ev_var rfl) hd rfl (ea_cons (ev_var rfl) ea_nil) (spV_of fun H4 e4 Q E r => ?_)))) (by rw [Hm.used_is])
    have R4 := R3.ex e4
    exact ⟨_, _, rfl, L.k i, L.kl i, L.b n, i, n, Kp423.callAt c i, Kp423.backendAt c n, attsOf c i, L.a, L.k, L.b, Kp423.attemptAt c, fun j => Kp423.backendAt c (Kp423.attemptAt c j).backend, rfl, rfl, R4.k i hi, R4.b n hn2, R4.kl i hi, R4.ats fun j hj => Hm.atts_lt hj,
      fun j hj => R4.b _ (W.at' j (Hm.atts_lt hj)).backend, Nat.le_trans (Hm.atts_len c i) (na_z W), r⟩
  · rw [Hm.cand_is] at k
    unfold Hm.candL at k
    rw [if_pos (by simpa using hb)] at k
    exact x_v (ev_var rfl) fun H4 e4 => k p H4 hp ((e1.trans e2).trans (e3.trans e4)) (e4 _ _ (e3 _ _ (e2 _ _ h1)))
  · rw [Hm.cand_is] at k
    unfold Hm.candL at k
    rw [if_neg (by simpa using hb)] at k
    exact x_v (ev_var rfl) fun H4 e4 => k p2 H4 (fresh_back e1 hp2) ((e1.trans e2).trans (e3.trans e4)) (e4 _ _ (e3 _ _ h2))
def spHedge (K : PySem.W.Frag) : Sp := sp2 fun x y H Q _ => ∃ (L : Lay) (c : Kp423.Client) (i : Nat), x = .ref L.cl ∧ y = .ref (L.k i) ∧ Rep K H L c ∧ i < nc c ∧ RetV (optV (Hm.hedgeT c (Kp423.callAt c i))) H Q
theorem sc_Client_hedge_time : FnScope ["self", "call"] ["self", "call"] (defScope s_Client_hedge_time) := ⟨rfl, rfl, rfl, by decide +kernel, rfl, by decide +kernel, by decide +kernel⟩
theorem ok_Client_hedge_time (T : Tx K mg) : Ok P w K mg base CX0 1 (He.ma K (He.ga K "Client") "hedge_time") ["self", "call"] (spHedge K) := by
  obtain ⟨fd, F0⟩ := T.def_ 36 (d := d_Client_hedge_time) rfl
  have F : FunD K "hedge_time" "Client.hedge_time" (defArgs s_Client_hedge_time) (defBody s_Client_hedge_time) (defScope s_Client_hedge_time) [] [] (He.ma K (He.ga K "Client") "hedge_time") fd := F0
  refine ⟨fd, F.ok sc_Client_hedge_time sp2_len (fun cdv A outer s H vs Q E hr h => ?_), F.kp, F.bindsN fun _ _ _ _ _ _ us hl => match us, hl with | [_, _], _ => rfl⟩
  refine ⟨_, PSs.nox (pss_cons (ps_if (PW.pt (pw_or (pt_cmpR op_eq (pe_fld (pe_fld (pv 0) rfl) rfl) pe_int (nomark _)) (pw_or (pt_not (pt_val (pe_fld (pv 1) rfl))) (pw_or1 (pt_cmpR op_ge (pe_fld (pv 1) rfl) (pe_fld (pe_fld (pv 0) rfl) rfl) (nomark _)))))) (pss_one (ps_ret pe_non)) pss_nil) (pss_one (ps_ret (pe_op op_add (pe_fld (pv 0) rfl) (pe_fld (pe_fld (pv 0) rfl) rfl))))), ?_⟩
  obtain ⟨_, _, rfl, L, c, i, rfl, rfl, R, hi, k⟩ := h
  refine q_when (et_or (et_eqN (b := 0) (rP_hedge T (rL_policy T (ev_var rfl) R) R.po) ev_c) fun _ => et_or (et_not (et_B (rC_idem T (ev_var rfl) (R.k i hi)))) fun _ => et_test (ev_op (rC_counted T (ev_var rfl) (R.k i hi)) (rP_max_attempts T (rL_policy T (ev_var rfl) R) R.po) rv_I0)) (fun hb H1 e1 => ?_) fun hb H1 e1 => ?_
  · have e : Hm.hedgeT c (Kp423.callAt c i) = none := by
      unfold Hm.hedgeT
      rw [le_cast] at hb
      simp only [Bool.or_eq_true, decide_eq_true_eq, Bool.not_eq_true'] at hb
      refine if_neg fun z => ?_
      obtain ⟨z1, z2, z3⟩ := z
      rcases hb with q | q | q
      · exact z1 q
      · rw [z2] at q; cases q
      · omega
    rw [e] at k
    exact s_ret ev_c fun H2 e2 => k H2 (e1.trans e2)
  · have e : Hm.hedgeT c (Kp423.callAt c i) = some (c.now + c.policy.hedgeDelay) := by
      unfold Hm.hedgeT
      rw [le_cast] at hb
      simp only [Bool.or_eq_false_iff, decide_eq_false_iff_not, Bool.not_eq_false'] at hb
      exact if_pos ⟨hb.1, hb.2.1, by omega⟩
    rw [e] at k
    exact s_ret (v := .int ((c.now + c.policy.hedgeDelay : Nat) : Int)) (ev_op (rL_now T (ev_var rfl) (R.ex e1)) (rP_hedge T (rL_policy T (ev_var rfl) (R.ex e1)) (R.ex e1).po) rv_I0) fun H2 e2 => k H2 (e1.trans e2)
def spToEj (K : PySem.W.Frag) : Sp := sp2 fun x y H Q _ => ∃ (L : Lay) (c : Kp423.Client) (i : Nat), x = .ref L.cl ∧ y = .ref (L.b i) ∧ Rep K H L c ∧ Hm.Wf c ∧ i < nb c ∧ RetV (.bl (Hm.toEject c i)) H Q
theorem sc_Client_is_to_eject : FnScope ["self", "backend", "threshold", "active", "ejected", "other"] ["self", "backend"] (defScope s_Client_is_to_eject) := ⟨rfl, rfl, rfl, by decide +kernel, rfl, by decide +kernel, by decide +kernel⟩
theorem ok_Client_is_to_eject (T : Tx K mg) : Ok P w K mg base CX0 3 (He.ma K (He.ga K "Client") "is_to_eject") ["self", "backend"] (spToEj K) := by
  obtain ⟨fd, F0⟩ := T.def_ 39 (d := d_Client_is_to_eject) rfl
  have F : FunD K "is_to_eject" "Client.is_to_eject" (defArgs s_Client_is_to_eject) (defBody s_Client_is_to_eject) (defScope s_Client_is_to_eject) [] [] (He.ma K (He.ga K "Client") "is_to_eject") fd := F0
  refine ⟨fd, F.ok sc_Client_is_to_eject sp2_len (fun cdv A outer s H vs Q E hr h => ?_), F.kp, F.bindsN fun _ _ _ _ _ _ us hl => match us, hl with | [_, _], _ => rfl⟩
  refine ⟨_, PSs.nox (pss_cons (ps_set (i := 2) sc_Client_is_to_eject.nd rfl (Or.inl rfl) (pe_fld (pe_fld (pv 0) rfl) rfl)) (pss_cons (ps_if (PW.pt (pw_or (pt_cmpR op_eq (pv 2) pe_int (nomark _)) (pw_or (pt_cmpR op_lt (pe_fld (pv 1) rfl) (pv 2) (nomark _)) (pw_or1 (pt_not (pt_val (pe_methO (pv 1) T.c_Backend T.m_Backend_is_available (ok_Backend_is_available T) (hr.mono (by decide)) pass0 (pa_cons (pe_fld (pv 0) rfl) pa_nil)))))))) (pss_one (ps_ret pe_bl)) pss_nil) (pss_cons (ps_set (i := 3) sc_Client_is_to_eject.nd rfl (Or.inl rfl) (pe_meth0O (pv 0) T.c_Client T.m_Client_active (ok_Client_active T) (hr.mono (by decide)) pass0)) (pss_cons (ps_setLc (i := 4) (own := [("other", 5)]) (g := (gName 5)) (tt := (tB (tMeth (He.ga K "Backend") "is_ejected" (spIsEj K) [] E0 (tVar 5) (tCons (tFld K (tVar 0) "now") tNil)))) (te := (tVar 5)) rfl sc_Client_is_to_eject.nd rfl rfl (sw_true rfl rfl rfl (by decide +kernel)) (pi_list (pv 3)) (blkOk_by (own := [("other", 5)]) (N := ["self", "backend", "threshold", "active", "ejected", "other"]) (sc := defScope s_Client_is_to_eject) (by decide +kernel)) (fun _ _ _ _ _ => by exact (pg_name (i := 5) sc_Client_is_to_eject.nd rfl (Or.inl rfl))) (fun _ _ _ _ _ => by exact (pts_one (pt_val (pe_methO (pv 5) T.c_Backend T.m_Backend_is_ejected (ok_Backend_is_ejected T) (hr.mono (by decide)) pass0 (pa_cons (pe_fld (pv 0) rfl) pa_nil))))) (fun _ _ _ _ _ => by exact (pv 5))) (pss_one (ps_ret (pe_cmpR op_lt (pe_callB call_len_seq rfl T.b_len (by decide +kernel) (pa_cons (pv 4) pa_nil)) (pe_op op_fdiv (pe_op op_mul (pe_callB call_len_seq rfl T.b_len (by decide +kernel) (pa_cons (pv 3) pa_nil)) (pe_fld (pe_fld (pv 0) rfl) rfl)) pe_int) (nomark _)))))))), ?_⟩
  obtain ⟨_, _, rfl, L, c, i, rfl, rfl, R, W, hi, k⟩ := h
  refine q_asg (rP_threshold T (rL_policy T (ev_var rfl) R) R.po) fun H1 e1 => ?_
  have R1 := R.ex e1
  refine q_when (et_or (et_eqN (b := 0) (ev_var rfl) ev_c) fun _ => et_or (et_test (ev_op (rB_failures T (ev_var rfl) (R1.b i hi)) (ev_var rfl) rv_I0)) fun _ => et_not (et_B (ev_isAv (ev_var rfl) (rL_now T (ev_var rfl) R1) (R1.b i hi)))) (fun hb H2 e2 => ?_) fun hb H2 e2 => ?_
  · have e : Hm.toEject c i = false := by
      unfold Hm.toEject
      rw [lt_cast, ejd_is] at hb
      rw [hb]
      rfl
    rw [e] at k
    exact s_ret ev_c fun H3 e3 => k H3 ((e1.trans e2).trans e3)
  have e : Hm.toEject c i = decide (Kp423.ejectedCount c < Kp423.ejectionLimit c) := by
    unfold Hm.toEject
    rw [lt_cast, ejd_is] at hb
    rw [hb]
    rfl
  rw [e] at k
  have R2 := R1.ex e2
  refine q_asgL (el_mt (ev_var rfl) R2 W rfl) fun p H3 hp e3 h3 => ?_
  have R3 := R2.ex e3
  refine q_asgL (xs := baL ((Kp423.activeBackends c).filter fun n => ejd (Kp423.backendAt c n) c.now) L.b) ?_ fun p2 H4 hp2 e4 h4 => ?_
  · refine el_lcM (K := K) (Kp423.activeBackends c) (fun n => V.ref (L.b n)) (fun n => ejd (Kp423.backendAt c n) c.now) (fun n => V.ref (L.b n)) (ev_var rfl) (sq_of h3) ?_ (fun _ => rfl) (fun n hn H4 e4 => ?_) fun n hn H4 e4 _ => ev_var rfl
    · exact Nat.le_trans (Hm.active_len c) (Nat.le_trans W.nb8 (by decide))
    · exact et_B (ev_isEj (ev_var rfl) (rL_now T (ev_var rfl) (R3.ex e4)) ((R3.ex e4).b n (Hm.active_lt hn)))
  · have R4 := R3.ex e4
    have l1 := ev_lenL (K := K) (tl := tVar 5) (σ := [some (V.ref L.cl), some (V.ref (L.b i)), some (V.int (c.policy.threshold : Int)), some (V.ref p), none, some (V.ref p2)]) (H := H4) (ev_var rfl) (sq_of h4)
    have l2 := ev_lenL (K := K) (tl := tVar 3) (σ := [some (V.ref L.cl), some (V.ref (L.b i)), some (V.int (c.policy.threshold : Int)), some (V.ref p), none, some (V.ref p2)]) (H := H4) (ev_var rfl) (sq_of (e4 _ _ h3))
    rw [List.length_map] at l1 l2
    have al := Hm.active_len c
    have an := W.nb8
    refine s_ret (ev_is (ev_op l1 (ev_op (ev_op l2 (rP_percent T (rL_policy T (ev_var rfl) R4) R4.po) (rv_I (Or.inl ⟨by omega, by omega⟩))) ev_c (rv_I ⟨by decide, by decide⟩)) rv_I0) (congrArg V.bl ?_)) fun H5 e5 => k H5 ((e1.trans e2).trans ((e3.trans e4).trans e5))
    unfold Kp423.ejectedCount Kp423.ejectionLimit
    rw [List.countP_eq_length_filter]
    have em : ((Kp423.activeBackends c).length : Int) * (c.policy.ejectionPercent : Int) / 100 = (((Kp423.activeBackends c).length * c.policy.ejectionPercent / 100 : Nat) : Int) := by
      rw [Int.natCast_ediv, Int.natCast_mul]
      rfl
    rw [em, lt_cast]
    rfl
def spRetry (K : PySem.W.Frag) : Sp := sp3 fun x y z H Q _ => ∃ (L : Lay) (c : Kp423.Client) (i s : Nat), x = .ref L.cl ∧ y = .ref (L.k i) ∧ z = .int (s : Int) ∧ Rep K H L c ∧ i < nc c ∧ RetV (.bl ((Kp423.callAt c i).idempotent && c.policy.retryable.contains s)) H Q
theorem in_nat (s : Nat) (l : List Nat) : inV (.int (s : Int)) (natL l) = l.contains s := by
  unfold inV natL
  rw [List.any_map, Bool.eq_iff_iff, List.any_eq_true, List.contains_iff_mem]
  constructor
  · rintro ⟨x, h1, h2⟩
    have : ((x : Int) == (s : Int)) = true := h2
    rw [beq_iff_eq] at this
    have : x = s := by omega
    rw [← this]
    exact h1
  · exact fun h => ⟨s, h, beq_self_eq_true (s : Int)⟩
theorem sc_Client_is_retryable : FnScope ["self", "call", "status"] ["self", "call", "status"] (defScope s_Client_is_retryable) := ⟨rfl, rfl, rfl, by decide +kernel, rfl, by decide +kernel, by decide +kernel⟩
theorem ok_Client_is_retryable (T : Tx K mg) : Ok P w K mg base CX0 1 (He.ma K (He.ga K "Client") "is_retryable") ["self", "call", "status"] (spRetry K) := by
  obtain ⟨fd, F0⟩ := T.def_ 42 (d := d_Client_is_retryable) rfl
  have F : FunD K "is_retryable" "Client.is_retryable" (defArgs s_Client_is_retryable) (defBody s_Client_is_retryable) (defScope s_Client_is_retryable) [] [] (He.ma K (He.ga K "Client") "is_retryable") fd := F0
  refine ⟨fd, F.ok sc_Client_is_retryable sp3_len (fun cdv A outer s H vs Q E hr h => ?_), F.kp, F.bindsN fun _ _ _ _ _ _ us hl => match us, hl with | [_, _, _], _ => rfl⟩
  refine ⟨_, PSs.nox (pss_one (ps_ret (pe_and (pe_fld (pv 1) rfl) (pe_one (pe_cmpR op_in_seq (pv 2) (pe_fld (pe_fld (pv 0) rfl) rfl) rfl))))), ?_⟩
  obtain ⟨_, _, _, rfl, L, c, i, s2, rfl, rfl, rfl, R, hi, k⟩ := h
  refine s_ret (ev_andV (rC_idem T (ev_var rfl) (R.k i hi)) fun _ => ev_is (ev_op (ev_var rfl) (rP_retryable T (rL_policy T (ev_var rfl) R) R.po) (rv_isL (sq_of R.re) rfl ?_)) (congrArg V.bl (in_nat s2 _))) k
  exact List.all_eq_true.mpr fun x hx => by
    obtain ⟨n, _, rfl⟩ := List.mem_map.mp hx
    rfl
/-! all timers, in order -/
def rawT (c : Kp423.Client) : List I3 := (List.range (nc c)).flatMap fun i => tmI i (Kp423.callAt c i)
def timL (c : Kp423.Client) : List I3 := (rawT c).mergeSort le3
def spAllT (K : PySem.W.Frag) : Sp := sp1 fun x H Q _ => ∃ (L : Lay) (c : Kp423.Client), x = .ref L.cl ∧ Rep K H L c ∧ Hm.Wf c ∧ ∀ p H' ys, H p = none → Ex H H' → H' p = some (.lst ys) → Paired (Tup3 H') ys (timL c) → Q (.ref p) H'
theorem tups_app {α : Type} {f : α → List V} {H : Hp} {l m : List α} {xs ys : List V} (h : Tups f l H xs) (g : Tups f m H ys) : Tups f (l ++ m) H (xs ++ ys) := by
  unfold Tups at h g ⊢
  induction h with
  | nil => exact g
  | cons r _ ih => exact .cons r ih
theorem tmI_len (n : Nat) (x : Kp423.RemoteCall) : (tmI n x).length ≤ 3 := by
  unfold tmI
  split
  · exact Nat.le_trans (List.length_filterMap_le _ _) (by simp)
  · simp
theorem raw_len (c : Kp423.Client) : ∀ n, ((List.range n).flatMap fun i => tmI i (Kp423.callAt c i)).length ≤ 3 * n
  | 0 => by simp
  | n + 1 => by
    rw [List.range_succ, List.flatMap_append, List.length_append]
    have h1 := raw_len c n
    have h2 := tmI_len n (Kp423.callAt c n)
    simp at h1 ⊢
    omega
theorem sc_Client_all_timers : FnScope ["self", "found", "call"] ["self"] (defScope s_Client_all_timers) := ⟨rfl, rfl, rfl, by decide +kernel, rfl, by decide +kernel, by decide +kernel⟩
theorem ok_Client_all_timers (T : Tx K mg) : Ok P w K mg base CX0 3 (He.ma K (He.ga K "Client") "all_timers") ["self"] (spAllT K) := by
  obtain ⟨fd, F0⟩ := T.def_ 45 (d := d_Client_all_timers) rfl
  have F : FunD K "all_timers" "Client.all_timers" (defArgs s_Client_all_timers) (defBody s_Client_all_timers) (defScope s_Client_all_timers) [] [] (He.ma K (He.ga K "Client") "all_timers") fd := F0
  refine ⟨fd, F.ok sc_Client_all_timers sp1_len (fun cdv A outer s H vs Q E hr h => ?_), F.kp, F.bindsN fun _ _ _ _ _ _ us hl => match us, hl with | [_], _ => rfl⟩
  refine ⟨_, PSs.nox (pss_cons (ps_set (i := 1) sc_Client_all_timers.nd rfl (Or.inl rfl) (pe_lst pa_nil)) (pss_cons (ps_for PassesOwn.never rfl (pi_list (pe_fld (pv 0) rfl)) (pg_name (i := 2) sc_Client_all_timers.nd rfl (Or.inl rfl)) (pss_one (ps_expr (pe_bm PySem.F.plainAttrs_list PySem.F.slot_list_extend PySem.F.type_list_extend mt_extend (pv 1) (pa_cons (pe_meth0O (pv 2) T.c_Call T.m_Call_timers (ok_Call_timers T) (hr.mono (by decide)) pass0) pa_nil))))) (pss_one (ps_ret (pe_callB (cr_sorted3 hr.units) rfl T.b_sorted (by decide +kernel) (pa_cons (pv 1) pa_nil)))))), ?_⟩
  obtain ⟨_, rfl, L, c, rfl, R, W, k⟩ := h
  refine q_asgL el_nil fun p H1 hp e1 h1 => ?_
  have R1 := R.ex e1
  refine q_forLn (xs := baL (List.range (nc c)) L.k) (rL_calls T (ev_var rfl) R1) (sq_of R1.lc) (fun n σ' H' => ∃ v xs, σ' = [some (.ref L.cl), some (.ref p), v] ∧ Ex H H' ∧ H' p = some (.lst xs) ∧ Tups i3V ((List.range n).flatMap fun i => tmI i (Kp423.callAt c i)) H' xs) ?_ ?_ ?_ ?_
  · exact fun H2 e2 => ⟨none, [], rfl, e1.trans e2, e2 _ _ h1, .nil⟩
  · rintro n _ H2 _ ⟨v, xs, rfl, e2, h2, t2⟩
    exact sq_of (e2 _ _ R.lc)
  · rintro n x _ H2 hx ⟨v, xs, rfl, e2, h2, t2⟩
    rw [List.getElem?_map] at hx
    cases hq : (List.range (nc c))[n]? with
    | none => rw [hq] at hx; cases hx
    | some m =>
      rw [hq] at hx
      cases hx
      obtain ⟨hl, hm⟩ := List.getElem?_eq_some_iff.mp hq
      rw [List.getElem_range] at hm
      rw [List.length_range] at hl
      subst hm
      have R2 := R.ex e2
      obtain ⟨dx, hd⟩ := R2.k n hl
      refine s_dropX (x_bmL (ev_var rfl) h2 fun H3 e3 => x_meth (vs := []) (ev_var rfl) (e3 _ _ hd) rfl ea_nil fun H4 e4 => ⟨_, rfl, L.k n, L.kl n, n, Kp423.callAt c n, rfl, ((R2.k n hl).ex e3).ex e4, fun q H5 ys hq5 e5 h5 t5 => ?_⟩)
      have ep := e5 _ _ (e4 _ _ (e3 _ _ h2))
      have t2' := t2.ex (H' := H5) fun s us hs => e5 _ _ (e4 _ _ (e3 _ _ hs))
      refine ⟨p, q, xs, ys, rfl, rfl, ep, h5, ?_, some (.ref (L.k n)), xs ++ ys, rfl, Ex.mut (e2.trans (e3.trans (e4.trans e5))) hp, upd_same, ?_⟩
      · have a1 := t2.len
        have a2 := t5.len
        have a3 := raw_len c n
        have a4 := tmI_len n (Kp423.callAt c n)
        have a5 := W.nc60
        have a6 : n < c.calls.length := hl
        exact sz_of (by omega)
      · rw [List.range_succ, List.flatMap_append]
        have et : List.flatMap (fun i => tmI i (Kp423.callAt c i)) [n] = tmI n (Kp423.callAt c n) := by simp
        rw [et]
        refine Tups.ex (H := H5) (fun s us hs => ?_) (tups_app t2' t5)
        rw [upd_ne (ne_of hs ep (by intro z; cases z))]
        exact hs
  · rintro _ H2 ⟨v, xs, rfl, e2, h2, t2⟩
    rw [List.length_map, List.length_range] at t2
    refine s_retX (x_cb1 (x_v (ev_var rfl) fun H3 e3 => ⟨p, xs, rawT c, rfl, sq_of (e3 _ _ h2), ?_, fun ys q hq hp2 => ?_⟩))
    · exact t2.ex fun s us hs => e3 _ _ hs
    · refine k q _ ys (fresh_back (e2.trans e3) hq) ((e2.trans e3).trans (Ex.new hq)) upd_same ?_
      unfold timL
      exact Tups.ex (f := i3V) (H := H3) (fun s us hs => Ex.new hq _ _ hs) hp2
end
end Hc
namespace Hc
open PySem PySem.Spec PyProof.Rows L2 Evl
open Hm (attsOf)
section
variable {P : Program} {w : World} {K : PySem.W.Frag} {mg : Str → Option Value} {base : Heap}
section
variable {H H' H0 : Hp} {σ : L2.St} {ta tb tl : TE} {D : Ends} {tz tu : TS} {v : V} {f : Str} {L L0 : Lay} {c c0 : Kp423.Client}
theorem Rep.free (R : Rep K H L c) {p : Addr} (h : H p = none) : ¬ Tr L c p := by
  have fi : ∀ {a : Addr} {x : Str} {fs : List (Str × V)}, InsAt K H a x fs → p ≠ a := fun ⟨d, q⟩ z => by rw [← z, h] at q; cases q
  have fl : ∀ {a : Addr} {xs : List V}, H a = some (.lst xs) → p ≠ a := fun q z => by rw [← z, h] at q; cases q
  rintro (z | z | z | z | z | z | ⟨i, hi, z⟩ | ⟨i, hi, z | z⟩ | ⟨j, hj, z⟩)
  · exact fi R.cl z
  · exact fi R.po z
  · exact fl R.re z
  · exact fl R.lb z
  · exact fl R.lc z
  · exact fl R.la z
  · exact fi (R.b i hi) z
  · exact fi (R.k i hi) z
  · exact fl (R.kl i hi) z
  · exact fi (R.a j hj) z
/-- one more store to a call, behind others -/
theorem q_ck2 {i : Nat} {x : Kp423.RemoteCall} (y : Kp423.RemoteCall) (T : Tx K mg) (G : Go K H0 L0 c0 H L (Kp423.setCall c i x)) (hi : i < nc c) (hv : Ev tb σ H v) (h : Ev ta σ H (.ref (L.k i))) (n : NoAttr K (He.ga K "Call") f) (e : putF f v (caF i (L.kl i) x) = caF i (L.kl i) y) (k : ∀ H1, Go K H0 L0 c0 H1 L (Kp423.setCall c i y) → tz D σ H1) : tSeq (sFld K ta tb f) tz D σ H :=
  q_ck y T G.rep (by rw [setC_len]; exact hi) hv h n (by rw [ca_same hi]; exact e) fun H1 g => k H1 (by rw [Hm.setC2] at g; exact G.trans g)
theorem s_ck2 {i : Nat} {x : Kp423.RemoteCall} (y : Kp423.RemoteCall) (T : Tx K mg) (G : Go K H0 L0 c0 H L (Kp423.setCall c i x)) (hi : i < nc c) (hv : Ev tb σ H v) (h : Ev ta σ H (.ref (L.k i))) (n : NoAttr K (He.ga K "Call") f) (e : putF f v (caF i (L.kl i) x) = caF i (L.kl i) y) (k : ∀ H1, Go K H0 L0 c0 H1 L (Kp423.setCall c i y) → D.nx σ H1) : sFld K ta tb f D σ H :=
  s_ck y T G.rep (by rw [setC_len]; exact hi) hv h n (by rw [ca_same hi]; exact e) fun H1 g => k H1 (by rw [Hm.setC2] at g; exact G.trans g)
theorem s_forNLn {xs : List V} {j : Nat} (h : EvL tl σ H xs) (Pv : Addr → Nat → L2.St → Hp → Prop) (h0 : ∀ p H1, H p = none → Ex H H1 → H1 p = some (.lst xs) → Pv p 0 σ H1) (hl : ∀ p i σ' H', i ≤ xs.length → Pv p i σ' H' → SqL K H' p xs)
    (hs : ∀ p i x σ' H', xs[i]? = some x → Pv p i σ' H' → tu { D with nx := Pv p (i + 1), ct := Pv p (i + 1), bk := D.nx } (σ'.set j (some x)) H') (hd : ∀ p σ' H', Pv p xs.length σ' H' → D.nx σ' H') : tFor (iList K tl) (gName j) tu D σ H :=
  s_forNL h Pv h0 hl hs hd
/-- an attempt leaves -/
theorem go_leave {j : Nat} {st : Kp423.AttemptState} (R : Rep K H L c) (hj : j < na c) (hb : (Kp423.attemptAt c j).backend < nb c) (ha : AtAt K H' (L.a j) j (L.k (Kp423.attemptAt c j).call) (L.b (Kp423.attemptAt c j).backend) { Kp423.attemptAt c j with state := st })
    (hB : BaAt K H' (L.b (Kp423.attemptAt c j).backend) (Kp423.attemptAt c j).backend { Kp423.backendAt c (Kp423.attemptAt c j).backend with outstanding := (Kp423.backendAt c (Kp423.attemptAt c j).backend).outstanding - 1 })
    (f : ∀ q o, H q = some o → q ≠ L.a j → q ≠ L.b (Kp423.attemptAt c j).backend → H' q = some o) : Go K H L c H' L (Hm.ended c j st) := by
  have hA := R.a j hj
  have hBo := R.b _ hb
  have nab : L.a j ≠ L.b (Kp423.attemptAt c j).backend := ne_atba hA hBo
  have g1 : Go K H L c (fun q => if q = L.a j then H' q else H q) L (Kp423.setAttempt c j { Kp423.attemptAt c j with state := st }) := by
    refine go_at R hj rfl rfl ?_ fun q o hq n => ?_
    · obtain ⟨d, q⟩ := ha
      exact ⟨d, by show (if _ then _ else _) = _; rw [if_pos rfl]; exact q⟩
    · show (if _ then _ else _) = _
      rw [if_neg n]
      exact hq
  refine g1.trans (go_ba g1.rep (by exact hb) ⟨hB, fun q o hq n => ?_⟩)
  by_cases z : q = L.a j
  · subst z
    have : (if L.a j = L.a j then H' (L.a j) else H (L.a j)) = some o := hq
    rw [if_pos rfl] at this
    exact this
  · have : (if q = L.a j then H' q else H q) = some o := hq
    rw [if_neg z] at this
    exact f q o this z n
/-- attempt.leave(state, status) -/
theorem x_leave {j s t : Nat} {st : Kp423.AttemptState} {E : XK} {ts tt : TE} {Q : VK} (T : Tx K mg) (R : Rep K H L c) (W : Hm.Wf c) (hj : j < na c) (hr : Kp423.isRunning (Kp423.attemptAt c j) = true) (h1 : stI st = s) (h2 : stS st = t) (h : Ev ta σ H (.ref (L.a j))) (hs : Ev ts σ H (.int (s : Int))) (ht : Ev tt σ H (.int (t : Int)))
    (k : ∀ H1, Go K H L c H1 L (Hm.ended c j st) → Q .non H1) : tMeth (He.ga K "Attempt") "leave" (spLeave K) [] E ta (tCons ts (tCons tt tNil)) σ H Q := by
  obtain ⟨dx, hd⟩ := R.a j hj
  refine x_meth h hd rfl (ea_cons hs (ea_cons ht ea_nil)) fun H1 e1 => ?_
  have R1 := R.ex e1
  have hb := (W.at' j hj).backend
  exact ⟨_, _, _, rfl, L.a j, L.k (Kp423.attemptAt c j).call, L.b (Kp423.attemptAt c j).backend, j, (Kp423.attemptAt c j).backend, s, t, Kp423.attemptAt c j, Kp423.backendAt c (Kp423.attemptAt c j).backend, rfl, rfl, rfl, R1.a j hj, R1.b _ hb, W.one hj hr,
    fun H2 a2 b2 f2 => k H2 (Go.after e1 R (go_leave R1 hj hb (a2 st h1 h2) b2 f2))⟩
end
/-! ### a call ends -/
def spEnd (K : PySem.W.Frag) : Sp := sp3 fun x y z H Q _ => ∃ (L : Lay) (c : Kp423.Client) (i s : Nat), x = .ref L.cl ∧ y = .ref (L.k i) ∧ z = .int (s : Int) ∧ Rep K H L c ∧ Hm.Wf c ∧ i < nc c ∧ ∀ H', Go K H L c H' L (Kp423.finishCall c i s) → Q .non H'
theorem sc_Client_end_call : FnScope ["self", "call", "status", "attempt"] ["self", "call", "status"] (defScope s_Client_end_call) := ⟨rfl, rfl, rfl, by decide +kernel, rfl, by decide +kernel, by decide +kernel⟩
theorem ok_Client_end_call (T : Tx K mg) : Ok P w K mg base CX0 2 (He.ma K (He.ga K "Client") "end_call") ["self", "call", "status"] (spEnd K) := by
  obtain ⟨fd, F0⟩ := T.def_ 37 (d := d_Client_end_call) rfl
  have F : FunD K "end_call" "Client.end_call" (defArgs s_Client_end_call) (defBody s_Client_end_call) (defScope s_Client_end_call) [] [] (He.ma K (He.ga K "Client") "end_call") fd := F0
  refine ⟨fd, F.ok sc_Client_end_call sp3_len (fun cdv A outer s H vs Q E hr h => ?_), F.kp, F.bindsN fun _ _ _ _ _ _ us hl => match us, hl with | [_, _, _], _ => rfl⟩
  refine ⟨_, PSs.nox (pss_cons (ps_fld (pv 1) (pv 2) rfl) (pss_cons (ps_fld (pv 1) (pe_fld (pv 0) rfl) rfl) (pss_cons (ps_fld (pv 1) pe_non rfl) (pss_cons (ps_fld (pv 1) pe_non rfl) (pss_one (ps_for PassesOwn.never rfl (pi_list (pe_meth0O (pv 1) T.c_Call T.m_Call_running (ok_Call_running T) (hr.mono (by decide)) pass0)) (pg_name (i := 3) sc_Client_end_call.nd rfl (Or.inl rfl)) (pss_one (ps_expr (pe_methO (pv 3) T.c_Attempt T.m_Attempt_leave (ok_Attempt_leave T) (hr.mono (by decide)) pass0 (pa_cons (pe_gi T.i_CANCELLED) (pa_cons pe_int pa_nil))))))))))), ?_⟩
  obtain ⟨_, _, _, rfl, L, c, i, s2, rfl, rfl, rfl, R, W, hi, k⟩ := h
  refine q_ck { Kp423.callAt c i with status := some s2 } T R hi (ev_var rfl) (ev_var rfl) T.n_Call_final rfl fun H1 G1 => ?_
  refine q_ck2 { Kp423.callAt c i with status := some s2, finishedAt := c.now } T G1 hi (rL_now T (ev_var rfl) G1.rep) (ev_var rfl) T.n_Call_finished_at rfl fun H2 G2 => ?_
  refine q_ck2 { Kp423.callAt c i with status := some s2, finishedAt := c.now, retryAt := none } T G2 hi ev_c (ev_var rfl) T.n_Call_retry_at rfl fun H3 G3 => ?_
  refine q_ck2 { Kp423.callAt c i with status := some s2, finishedAt := c.now, retryAt := none, hedgeAt := none } T G3 hi ev_c (ev_var rfl) T.n_Call_hedge_at rfl fun H4 G4 => ?_
  have W4 : Hm.Wf (Hm.closed c i s2) := W.closed hi
  have R4 : Rep K H4 L (Hm.closed c i s2) := G4.rep
  have hi4 : i < nc (Hm.closed c i s2) := by show i < (c.calls.set i _).length; rw [List.length_set]; exact hi
  obtain ⟨dx, hd⟩ := R4.k i hi4
  have hrun : ∀ j ∈ Kp423.runningOf c i, j < c.attempts.length ∧ Kp423.isRunning (Kp423.attemptAt c j) = true := fun j hj => ⟨(Hm.running_mem hj).1, (Hm.running_mem hj).2.1⟩
  refine s_forNLn (xs := baL (Kp423.runningOf c i) L.a) ?_ (fun p n σ' H' => ∃ v, σ' = [some (.ref L.cl), some (.ref (L.k i)), some (.int (s2 : Int)), v] ∧ H' p = some (.lst (baL (Kp423.runningOf c i) L.a)) ∧ ¬ Tr L ((((Kp423.runningOf c i).take n).foldl Kp423.cancelAttempt (Hm.closed c i s2))) p ∧
    Go K H L c H' L (((Kp423.runningOf c i).take n).foldl Kp423.cancelAttempt (Hm.closed c i s2))) ?_ ?_ ?_ ?_
  · refine el_meth (ev_var rfl) hd rfl ea_nil (spL_of fun H5 e5 Q E r => ⟨_, rfl, L.k i, L.kl i, i, _, attsOf (Hm.closed c i s2) i, L.a, L.k, L.b, Kp423.attemptAt (Hm.closed c i s2), rfl, (R4.k i hi4).ex e5, e5 _ _ (R4.kl i hi4), (R4.ex e5).ats fun j hj => Hm.atts_lt hj, Nat.le_trans (Hm.atts_len _ i) (na_z W4), ?_⟩)
    rw [Hm.running_is]
    exact r
  · exact fun p H5 hp e5 h5 => ⟨none, rfl, h5, R4.free hp, G4.then e5⟩
  · rintro p n _ H5 _ ⟨v, rfl, h5, _, _⟩
    exact sq_of h5
  · rintro p n x _ H5 hx ⟨v, rfl, h5, nt, G5⟩
    rw [List.getElem?_map] at hx
    cases hq : (Kp423.runningOf c i)[n]? with
    | none => rw [hq] at hx; cases hx
    | some j =>
      rw [hq] at hx
      cases hx
      have hjm := List.mem_of_getElem? hq
      obtain ⟨r1, r2⟩ := hrun j hjm
      have hle : n ≤ (Kp423.runningOf c i).length := Nat.le_of_lt (List.getElem?_eq_some_iff.mp hq).1
      obtain ⟨c1, c2, c3, c4⟩ := Hm.cancel_at W4 (Hm.running_nodup c i) hrun n hle
      have hjt : j ∉ (Kp423.runningOf c i).take n := fun hm => by
        obtain ⟨m, hm1, hm2⟩ := List.getElem_of_mem hm
        rw [List.length_take] at hm1
        rw [List.getElem_take] at hm2
        have e1 : (Kp423.runningOf c i)[m]? = some j := by rw [List.getElem?_eq_getElem (by omega), hm2]
        have := nd_ix (Hm.running_nodup c i) e1 hq
        omega
      have et := Hm.take_more hq
      have ef : ((Kp423.runningOf c i).take (n + 1)).foldl Kp423.cancelAttempt (Hm.closed c i s2) = Hm.ended (((Kp423.runningOf c i).take n).foldl Kp423.cancelAttempt (Hm.closed c i s2)) j .cancelled := by
        rw [et, List.foldl_append]
        rfl
      refine s_dropX (x_leave (st := .cancelled) (s := 2) (t := 0) T G5.rep c1 (by rw [show na _ = _ from c2]; exact r1) (by rw [c4 j hjt]; exact r2) rfl rfl (ev_var rfl) ev_c ev_c fun H6 G6 => ⟨some (.ref (L.a j)), rfl, ?_, ?_, ?_⟩)
      · exact (G6.old _ _ h5 nt).1
      · rw [ef]
        exact (G6.old _ _ h5 nt).2
      · rw [ef]
        exact G5.trans G6
  · rintro p _ H5 ⟨v, rfl, h5, _, G5⟩
    rw [List.length_map, List.take_length] at G5
    exact k H5 G5
theorem x_end {H : Hp} {σ : L2.St} {ta tb tc : TE} {E : XK} {Q : VK} {L : Lay} {c : Kp423.Client} {i s : Nat} (R : Rep K H L c) (W : Hm.Wf c) (hi : i < nc c) (h : Ev ta σ H (.ref L.cl)) (hk : Ev tb σ H (.ref (L.k i))) (hs : Ev tc σ H (.int (s : Int))) (k : ∀ H1, Go K H L c H1 L (Kp423.finishCall c i s) → Q .non H1) :
    tMeth (He.ga K "Client") "end_call" (spEnd K) [] E ta (tCons tb (tCons tc tNil)) σ H Q := by
  obtain ⟨dx, hd⟩ := R.cl
  exact x_meth h hd rfl (ea_cons hk (ea_cons hs ea_nil)) fun H1 e1 => ⟨_, _, _, rfl, L, c, i, s, rfl, rfl, rfl, R.ex e1, W, hi, fun H2 G2 => k H2 (Go.after e1 R G2)⟩
/-! ### choosing a backend -/
def spChoose (K : PySem.W.Frag) : Sp := sp2 fun x y H Q _ => ∃ (L : Lay) (c : Kp423.Client) (i b : Nat), x = .ref L.cl ∧ y = .ref (L.k i) ∧ Rep K H L c ∧ Hm.Wf c ∧ i < nc c ∧ Hm.pick c.policy.balancer (Kp423.candidates c (Kp423.triedBackends c i)) c.pointer (Kp423.callAt c i).key (Kp423.backendAt c) = some b ∧
  b ∈ Kp423.candidates c (Kp423.triedBackends c i) ∧ ∀ H', Go K H L c H' L (Hm.moved c (Kp423.candidates c (Kp423.triedBackends c i)) b) → Q (.ref (L.b b)) H'
theorem Rep.bas {H : Hp} {L : Lay} {c : Kp423.Client} (R : Rep K H L c) {l : List Nat} (h : ∀ i ∈ l, i < nb c) : Bas K H l L.b (Kp423.backendAt c) := fun i hi => R.b i (h i hi)
theorem sc_Client_choose : FnScope ["self", "call", "candidates", "chosen"] ["self", "call"] (defScope s_Client_choose) := ⟨rfl, rfl, rfl, by decide +kernel, rfl, by decide +kernel, by decide +kernel⟩
theorem ok_Client_choose (T : Tx K mg) : Ok P w K mg base CX0 6 (He.ma K (He.ga K "Client") "choose") ["self", "call"] (spChoose K) := by
  obtain ⟨fd, F0⟩ := T.def_ 34 (d := d_Client_choose) rfl
  have F : FunD K "choose" "Client.choose" (defArgs s_Client_choose) (defBody s_Client_choose) (defScope s_Client_choose) [] [] (He.ma K (He.ga K "Client") "choose") fd := F0
  refine ⟨fd, F.ok sc_Client_choose sp2_len (fun cdv A outer s H vs Q E hr h => ?_), F.kp, F.bindsN fun _ _ _ _ _ _ us hl => match us, hl with | [_, _], _ => rfl⟩
  refine ⟨_, PSs.nox (pss_cons (ps_set (i := 2) sc_Client_choose.nd rfl (Or.inl rfl) (pe_methO (pv 0) T.c_Client T.m_Client_candidates (ok_Client_candidates T) (hr.mono (by decide)) pass0 (pa_cons (pv 1) pa_nil))) (pss_cons (ps_set (i := 3) sc_Client_choose.nd rfl (Or.inl rfl) (pe_callO (ok_choice T) (hr.mono (by decide)) rfl T.g_choice pass0 (pa_cons (pe_fld (pv 0) rfl) (pa_cons (pv 2) (pa_cons (pe_fld (pv 0) rfl) (pa_cons (pe_fld (pv 1) rfl) pa_nil)))))) (pss_cons (ps_if (pt_cmpR op_eq (pe_fld (pv 0) rfl) (pe_gi T.i_ROUND_ROBIN) (nomark _)) (pss_one (ps_fld (pv 0) (pe_op op_add (pe_fld (pv 3) rfl) pe_int) rfl)) pss_nil) (pss_cons (ps_if (pt_cmpR op_eq (pe_fld (pv 0) rfl) (pe_gi T.i_WEIGHTED) (nomark _)) (pss_one (ps_expr (pe_callO (ok_shift_weights T) (hr.mono (by decide)) rfl T.g_shift_weights pass0 (pa_cons (pv 2) (pa_cons (pv 3) pa_nil))))) pss_nil) (pss_one (ps_ret (pv 3))))))), ?_⟩
  obtain ⟨_, _, rfl, L, c, i, b, rfl, rfl, R, W, hi, hp, hb, k⟩ := h
  have hlt : ∀ n ∈ Kp423.candidates c (Kp423.triedBackends c i), n < nb c := fun n hn => Hm.active_lt (Hm.cand_sub hn)
  have hz : (Kp423.candidates c (Kp423.triedBackends c i)).length ≤ 1000 := Nat.le_trans (Hm.cand_len c _) (Nat.le_trans W.nb8 (by decide))
  obtain ⟨dx, hd⟩ := R.cl
  refine q_asgL (xs := baL (Kp423.candidates c (Kp423.triedBackends c i)) L.b) (el_meth (ev_var rfl) hd rfl (ea_cons (ev_var rfl) ea_nil) (spL_of fun H2 e2 Q E r => ⟨_, _, rfl, L, c, i, rfl, rfl, R.ex e2, W, hi, r⟩)) fun p H1 hp1 e1 h1 => ?_
  have R1 := R.ex e1
  refine q_asg (v := .ref (L.b b)) (ev_call (ea_cons (rL_balancer T (ev_var rfl) R1) (ea_cons (ev_var rfl) (ea_cons (rL_pointer T (ev_var rfl) R1) (ea_cons (rC_key T (ev_var rfl) (R1.k i hi)) ea_nil)))) (spV_of fun H2 e2 Q E r =>
    ⟨_, _, _, _, rfl, c.policy.balancer, p, Kp423.candidates c (Kp423.triedBackends c i), L.b, Kp423.backendAt c, c.pointer, (Kp423.callAt c i).key, b, rfl, rfl, rfl, rfl, e2 _ _ h1, (R1.ex e2).bas hlt, hz, hp, r⟩)) fun H2 e2 => ?_
  have R2 := R1.ex e2
  have G2 := Go.ex R (e1.trans e2)
  have hbl := hlt b hb
  refine q_when (et_eqN (b := 0) (rL_balancer T (ev_var rfl) R2) ev_c) (fun hb0 H3 e3 => ?_) fun hb0 H3 e3 => ?_
  · have e0 : c.policy.balancer = 0 := of_decide_eq_true hb0
    refine s_cl { c with pointer := b + 1 } T (R2.ex e3) (ev_op (rB_number T (ev_var rfl) ((R2.ex e3).b b hbl)) ev_c rv_I0) (ev_var rfl) T.n_Client_pointer rfl fun H4 G4 => ?_
    refine q_when (et_eqN (b := 1) (rL_balancer T (ev_var rfl) G4.rep) ev_c) (fun hb1 H5 e5 => ?_) fun hb1 H5 e5 => ?_
    · have : c.policy.balancer = 1 := of_decide_eq_true hb1
      omega
    · refine s_ret (ev_var rfl) fun H6 e6 => k H6 ?_
      rw [Hm.moved0 e0]
      exact ((G2.then e3).trans G4).then (e5.trans e6)
  · have n0 : c.policy.balancer ≠ 0 := of_decide_eq_false hb0
    have R3 := R2.ex e3
    refine q_when (et_eqN (b := 1) (rL_balancer T (ev_var rfl) R3) ev_c) (fun hb1 H5 e5 => ?_) fun hb1 H5 e5 => ?_
    · have e0 : c.policy.balancer = 1 := of_decide_eq_true hb1
      have R5 := R3.ex e5
      refine s_dropX (x_call (ea_cons (ev_var rfl) (ea_cons (ev_var rfl) ea_nil)) fun H6 e6 => ⟨_, _, rfl, p, Kp423.candidates c (Kp423.triedBackends c i), L.b, Kp423.backendAt c, b, rfl, rfl, ((e2.trans (e3.trans e5)).trans e6) _ _ h1, (R5.ex e6).bas hlt, hz, Hm.cand_nodup c _, hb, fun H7 b7 f7 => ?_⟩)
      have R6 := R5.ex e6
      have ml : nb (Hm.moved c (Kp423.candidates c (Kp423.triedBackends c i)) b) = nb c := Hm.moved_len c _ b
      have G7 : Go K H6 L c H7 L (Hm.moved c (Kp423.candidates c (Kp423.triedBackends c i)) b) := by
        refine go_bas R6 (fun q o hq nq => f7 q o hq fun n hn => nq n (hlt n hn)) (fun n hn => ?_) ml ?_
        · rw [Hm.moved_back c _ b n hn, if_pos e0]
          unfold Hm.shifted
          by_cases m : n ∈ Kp423.candidates c (Kp423.triedBackends c i)
          · rw [if_pos m]
            exact b7 n m
          · rw [if_neg m]
            obtain ⟨d, q⟩ := R6.b n hn
            exact ⟨d, f7 _ _ q fun n2 hn2 => num_ne (R6.b n hn) (R6.b n2 (hlt n2 hn2)) fun z => m (z ▸ hn2)⟩
        · exact Hm.moved1 e0
      exact s_ret (ev_var rfl) fun H8 e8 => k H8 (((G2.then (e3.trans (e5.trans e6))).trans G7).then e8)
    · have n1 : c.policy.balancer ≠ 1 := of_decide_eq_false hb1
      refine s_ret (ev_var rfl) fun H6 e6 => k H6 ?_
      have em : Hm.moved c (Kp423.candidates c (Kp423.triedBackends c i)) b = c := by
        unfold Hm.moved
        split
        · exact absurd ‹_› n0
        · exact absurd ‹_› n1
        · rfl
      rw [em]
      exact G2.then (e3.trans (e5.trans e6))
end
end Hc
namespace Hc
open PySem PySem.Spec PyProof.Rows L2 Evl
open Hm (attsOf)
section
variable {P : Program} {w : World} {K : PySem.W.Frag} {mg : Str → Option Value} {base : Heap}
/-! ### a new attempt -/
def Lay.plus (L : Lay) (c : Kp423.Client) (p : Addr) : Lay := { L with a := fun j => if j = na c then p else L.a j }
section
variable {H H' H0 : Hp} {L : Lay} {c : Kp423.Client}
theorem atts_add (a : Kp423.Attempt) (i : Nat) : attsOf { c with attempts := c.attempts ++ [a] } i = attsOf c i ++ (if a.call == i then [na c] else []) := by
  unfold attsOf
  show (List.range (c.attempts ++ [a]).length).filter _ = _
  rw [List.length_append, List.length_singleton, List.range_succ, List.filter_append]
  have e1 : ∀ j, j < c.attempts.length → Kp423.attemptAt { c with attempts := c.attempts ++ [a] } j = Kp423.attemptAt c j := fun j hj => by
    unfold Kp423.attemptAt
    rw [List.getD_eq_getElem?_getD, List.getD_eq_getElem?_getD, List.getElem?_append_left hj]
  have e2 : Kp423.attemptAt { c with attempts := c.attempts ++ [a] } c.attempts.length = a := by
    unfold Kp423.attemptAt
    rw [List.getD_eq_getElem?_getD, List.getElem?_append_right (Nat.le_refl _)]
    simp
  congr 1
  · exact List.filter_congr fun j hj => by rw [e1 j (List.mem_range.mp hj)]
  · rw [List.filter_cons, List.filter_nil, e2]
theorem atAdd_old (a : Kp423.Attempt) {j : Nat} (hj : j < na c) : Kp423.attemptAt { c with attempts := c.attempts ++ [a] } j = Kp423.attemptAt c j := by
  unfold Kp423.attemptAt
  rw [List.getD_eq_getElem?_getD, List.getD_eq_getElem?_getD, List.getElem?_append_left hj]
theorem atAdd_new (a : Kp423.Attempt) : Kp423.attemptAt { c with attempts := c.attempts ++ [a] } (na c) = a := by
  unfold Kp423.attemptAt
  rw [List.getD_eq_getElem?_getD, List.getElem?_append_right (Nat.le_refl _)]
  simp
theorem baL_plus {l : List Nat} {p : Addr} (h : ∀ j ∈ l, j < na c) : baL l (L.plus c p).a = baL l L.a := List.map_congr_left fun j hj => by
  have : (L.plus c p).a j = L.a j := if_neg (Nat.ne_of_lt (h j hj))
  rw [this]
theorem go_add {p : Addr} {a : Kp423.Attempt} (R : Rep K H L c) (hi : a.call < nc c) (hb : a.backend < nb c) (hp : H p = none) (h1 : AtAt K H' p (na c) (L.k a.call) (L.b a.backend) a) (h2 : H' L.la = some (.lst (baL (List.range (na c)) L.a ++ [.ref p]))) (h3 : H' (L.kl a.call) = some (.lst (baL (attsOf c a.call) L.a ++ [.ref p])))
    (f : ∀ q o, H q = some o → q ≠ L.la → q ≠ L.kl a.call → H' q = some o) : Go K H L c H' (L.plus c p) { c with attempts := c.attempts ++ [a] } := by
  have fl : ∀ {q : Addr} {xs : List V}, H q = some (.lst xs) → q ≠ L.la → q ≠ L.kl a.call → H' q = some (.lst xs) := fun h n1 n2 => f _ _ h n1 n2
  have fi : ∀ {q : Addr} {x : Str} {fs : List (Str × V)}, InsAt K H q x fs → InsAt K H' q x fs := fun h => by
    have n1 := ins_lst h R.la
    have n2 := ins_lst h (R.kl _ hi)
    obtain ⟨d, h⟩ := h
    exact ⟨d, f _ _ h n1 n2⟩
  have s2 := R.s2 _ hi
  have na' : na { c with attempts := c.attempts ++ [a] } = na c + 1 := by show (c.attempts ++ [a]).length = _; rw [List.length_append, List.length_singleton]
  have aold : ∀ j, j < na c → (L.plus c p).a j = L.a j := fun j hj => if_neg (Nat.ne_of_lt hj)
  have anew : (L.plus c p).a (na c) = p := if_pos rfl
  refine ⟨⟨fi R.cl, fi R.po, fl R.re R.s1.2.2.1 s2.1.symm, fl R.lb R.s1.2.2.2.2.1 s2.2.1.symm, fl R.lc R.s1.2.2.2.2.2 s2.2.2.1.symm, ?_, fun i hi => fi (R.b i hi), fun i hi => fi (R.k i hi), fun i hi' => ?_, fun j hj => ?_, R.s1, R.s2, R.s3⟩, fun q o hq nt => ⟨f q o hq ?_ ?_, ?_⟩, rfl, Nat.le_refl _, Nat.le_refl _, by rw [na']; exact Nat.le_succ _, fun _ _ => rfl, fun _ _ => rfl, aold⟩
  · show H' L.la = _
    rw [na', h2]
    unfold baL
    rw [List.range_succ, List.map_append]
    have e1 : List.map (fun i => V.ref ((L.plus c p).a i)) (List.range (na c)) = List.map (fun i => V.ref (L.a i)) (List.range (na c)) := baL_plus fun j hj => List.mem_range.mp hj
    rw [e1, List.map_singleton, anew]
  · show H' (L.kl i) = _
    rw [atts_add]
    by_cases z : i = a.call
    · subst z
      rw [if_pos (beq_self_eq_true _), h3]
      unfold baL
      rw [List.map_append]
      have e1 : List.map (fun i => V.ref ((L.plus c p).a i)) (attsOf c a.call) = List.map (fun i => V.ref (L.a i)) (attsOf c a.call) := baL_plus fun j hj => Hm.atts_lt hj
      rw [e1, List.map_singleton, anew]
    · have hi2 : i < nc c := hi'
      rw [if_neg (by rw [beq_iff_eq]; exact fun e => z e.symm), List.append_nil, baL_plus fun j hj => Hm.atts_lt hj]
      exact fl (R.kl i hi2) (R.s2 i hi2).2.2.2 (R.s3 i a.call hi2 hi z)
  · rw [na'] at hj
    by_cases z : j = na c
    · subst z
      rw [atAdd_new, anew]
      exact h1
    · have hj2 : j < na c := by omega
      rw [atAdd_old a hj2, aold j hj2]
      exact fi (R.a j hj2)
  · exact fun z => nt (.inr (.inr (.inr (.inr (.inr (.inl z))))))
  · exact fun z => nt (.inr (.inr (.inr (.inr (.inr (.inr (.inr (.inl ⟨a.call, hi, .inr z⟩))))))))
  · rintro (z | z | z | z | z | z | ⟨i, hi, z⟩ | ⟨i, hi, z⟩ | ⟨j, hj, z⟩)
    · exact nt (.inl z)
    · exact nt (.inr (.inl z))
    · exact nt (.inr (.inr (.inl z)))
    · exact nt (.inr (.inr (.inr (.inl z))))
    · exact nt (.inr (.inr (.inr (.inr (.inl z)))))
    · exact nt (.inr (.inr (.inr (.inr (.inr (.inl z))))))
    · exact nt (.inr (.inr (.inr (.inr (.inr (.inr (.inl ⟨i, hi, z⟩)))))))
    · exact nt (.inr (.inr (.inr (.inr (.inr (.inr (.inr (.inl ⟨i, hi, z⟩))))))))
    · rw [na'] at hj
      by_cases y : j = na c
      · subst y
        rw [anew] at z
        rw [z, hp] at hq
        cases hq
      · have hj2 : j < na c := by omega
        rw [aold j hj2] at z
        exact nt (.inr (.inr (.inr (.inr (.inr (.inr (.inr (.inr ⟨j, hj2, z⟩))))))))
end
theorem setC_self {c : Kp423.Client} {i : Nat} (h : i < nc c) : Kp423.setCall c i (Kp423.callAt c i) = c := by
  unfold Kp423.setCall
  rw [← Hm.ca_get h, List.set_getElem_self]
theorem start_tail {H0 H : Hp} {L0 L : Lay} {c0 d : Kp423.Client} {i : Nat} {x : Kp423.RemoteCall} {D : Ends} {σ : L2.St} {E : XK} (T : Tx K mg) (G : Go K H0 L0 c0 H L (Kp423.setCall d i x)) (hi : i < nc d) (h0 : σ[0]? = some (some (.ref L.cl))) (h1 : σ[1]? = some (some (.ref (L.k i))))
    (k : ∀ H1, Go K H0 L0 c0 H1 L (Kp423.setCall d i { x with retryAt := none, hedgeAt := Hm.hedgeT d { x with retryAt := none } }) → D.nx σ H1) :
    tSeq (sFld K (tVar 1) (tC .non) "retry_at") (sFld K (tVar 1) (tMeth (He.ga K "Client") "hedge_time" (spHedge K) [] E (tVar 0) (tCons (tVar 1) tNil)) "hedge_at") D σ H := by
  refine q_ck2 { x with retryAt := none } T G hi ev_c (ev_var h1) T.n_Call_retry_at rfl fun H1 G1 => ?_
  have R1 := G1.rep
  have hi1 : i < nc (Kp423.setCall d i { x with retryAt := none }) := by rw [setC_len]; exact hi
  obtain ⟨dx, hd⟩ := R1.cl
  refine s_ck2 { x with retryAt := none, hedgeAt := Hm.hedgeT d { x with retryAt := none } } T G1 hi (v := optV (Hm.hedgeT d { x with retryAt := none })) (ev_meth (ev_var h0) hd rfl (ea_cons (ev_var h1) ea_nil) (spV_of fun H2 e2 Q E r => ⟨_, _, rfl, L, _, i, rfl, rfl, R1.ex e2, hi1, ?_⟩)) (ev_var h1) T.n_Call_hedge_at rfl k
  rw [ca_same hi]
  exact r
def spStart (K : PySem.W.Frag) : Sp := sp3 fun x y z H Q _ => ∃ (L : Lay) (c : Kp423.Client) (i : Nat) (m : Bool), x = .ref L.cl ∧ y = .ref (L.k i) ∧ z = .bl m ∧ Rep K H L c ∧ Hm.Wf c ∧ i < nc c ∧ ∀ H' L', Go K H L c H' L' (Kp423.startAttempt c i m) → Q .non H'
theorem sc_Client_start_attempt : FnScope ["self", "call", "is_counted", "backend", "attempt"] ["self", "call", "is_counted"] (defScope s_Client_start_attempt) := ⟨rfl, rfl, rfl, by decide +kernel, rfl, by decide +kernel, by decide +kernel⟩
theorem ok_Client_start_attempt (T : Tx K mg) : Ok P w K mg base CX0 7 (He.ma K (He.ga K "Client") "start_attempt") ["self", "call", "is_counted"] (spStart K) := by
  obtain ⟨fd, F0⟩ := T.def_ 35 (d := d_Client_start_attempt) rfl
  have F : FunD K "start_attempt" "Client.start_attempt" (defArgs s_Client_start_attempt) (defBody s_Client_start_attempt) (defScope s_Client_start_attempt) [] [] (He.ma K (He.ga K "Client") "start_attempt") fd := F0
  refine ⟨fd, F.ok sc_Client_start_attempt sp3_len (fun cdv A outer s H vs Q E hr h => ?_), F.kp, F.bindsN fun _ _ _ _ _ _ us hl => match us, hl with | [_, _, _], _ => rfl⟩
  refine ⟨_, PSs.nox (pss_cons (ps_if (pt_cmpR (op_eqE hr.units0) (pe_meth0O (pv 0) T.c_Client T.m_Client_active (ok_Client_active T) (hr.mono (by decide)) pass0) (pe_lst pa_nil) (nomark _)) (pss_cons (ps_expr (pe_methO (pv 0) T.c_Client T.m_Client_end_call (ok_Client_end_call T) (hr.mono (by decide)) pass0 (pa_cons (pv 1) (pa_cons (pe_gi T.i_UNAVAILABLE) pa_nil)))) (pss_one ps_retN)) pss_nil) (pss_cons (ps_set (i := 3) sc_Client_start_attempt.nd rfl (Or.inl rfl) (pe_methO (pv 0) T.c_Client T.m_Client_choose (ok_Client_choose T) (hr.mono (by decide)) pass0 (pa_cons (pv 1) pa_nil))) (pss_cons (ps_set (i := 4) sc_Client_start_attempt.nd rfl (Or.inl rfl) (pe_makeO T.mk_Attempt (ok_Attempt_init T) (hr.mono (by decide)) rfl T.g_Attempt pass0 (pa_cons (pe_callB call_len_seq rfl T.b_len (by decide +kernel) (pa_cons (pe_fld (pv 0) rfl) pa_nil)) (pa_cons (pv 1) (pa_cons (pv 3) (pa_cons (pe_op op_add (pe_callB call_len_seq rfl T.b_len (by decide +kernel) (pa_cons (pe_fld (pv 1) rfl) pa_nil)) pe_int) (pa_cons (pe_fld (pv 0) rfl) pa_nil))))))) (pss_cons (ps_expr (pe_bm PySem.F.plainAttrs_list PySem.F.slot_list_append PySem.F.type_list_append mt_append (pe_fld (pv 0) rfl) (pa_cons (pv 4) pa_nil))) (pss_cons (ps_expr (pe_bm PySem.F.plainAttrs_list PySem.F.slot_list_append PySem.F.type_list_append mt_append (pe_fld (pv 1) rfl) (pa_cons (pv 4) pa_nil))) (pss_cons (ps_fld (pv 3) (pe_op op_add (pe_fld (pv 3) rfl) pe_int) rfl) (pss_cons (ps_if (pt_val (pv 2)) (pss_one (ps_fld (pv 1) (pe_op op_add (pe_fld (pv 1) rfl) pe_int) rfl)) pss_nil) (pss_cons (ps_fld (pv 1) pe_non rfl) (pss_one (ps_fld (pv 1) (pe_methO (pv 0) T.c_Client T.m_Client_hedge_time (ok_Client_hedge_time T) (hr.mono (by decide)) pass0 (pa_cons (pv 1) pa_nil)) rfl)))))))))), ?_⟩
  obtain ⟨_, _, _, rfl, L, c, i, m, rfl, rfl, rfl, R, W, hi, k⟩ := h
  refine q_when (et_test (ev_emp (K := K) (neg := false) (el_mt (ev_var rfl) R W rfl) fun _ _ => el_nil)) (fun hb H1 e1 => ?_) fun hb H1 e1 => ?_
  · have ha : Kp423.activeBackends c = [] := by simpa using hb
    rw [Hm.start_none ha] at k
    exact q_dropX (x_end (s := 14) (R.ex e1) W hi (ev_var rfl) (ev_var rfl) ev_c fun H2 G2 => s_retN (k H2 L (Go.after e1 R G2)))
  have ha : Kp423.activeBackends c ≠ [] := by simpa using hb
  obtain ⟨b, hp, hbm, hbl, es⟩ := Hm.start_some (i := i) (k := m) ha
  rw [es] at k
  generalize hch : Hm.moved c (Kp423.candidates c (Kp423.triedBackends c i)) b = ch at k
  have r1 : ch.policy = c.policy := hch ▸ (Hm.moved_rest c _ b).1
  have r2 : ch.now = c.now := hch ▸ (Hm.moved_rest c _ b).2.1
  have r3 : ch.calls = c.calls := hch ▸ (Hm.moved_rest c _ b).2.2.1
  have r4 : ch.attempts = c.attempts := hch ▸ (Hm.moved_rest c _ b).2.2.2
  have r5 : ch.backends.length = c.backends.length := hch ▸ Hm.moved_len c _ b
  have rn : nc ch = nc c := congrArg List.length r3
  have ra : na ch = na c := congrArg List.length r4
  have rca : Kp423.callAt ch i = Kp423.callAt c i := by unfold Kp423.callAt; rw [r3]
  have rat : attsOf ch i = attsOf c i := by unfold attsOf Kp423.attemptAt; rw [r4]
  have R1 := R.ex e1
  obtain ⟨dx, hd⟩ := R1.cl
  refine q_asgX (x_meth (ev_var rfl) hd rfl (ea_cons (ev_var rfl) ea_nil) fun H2 e2 => ⟨_, _, rfl, L, c, i, b, rfl, rfl, R1.ex e2, W, hi, hp, hbm, fun H3 G3 => ?_⟩)
  rw [hch] at G3
  have G3' : Go K H L c H3 L ch := Go.after e1 R (Go.after e2 R1 G3)
  have R3 := G3'.rep
  have hi3 : i < nc ch := by rw [rn]; exact hi
  have hz := W.few
  have n1 := ev_lenL (K := K) (rL_attempts (L := L) T (ev_var (σ := [some (V.ref L.cl), some (V.ref (L.k i)), some (V.bl m), some (V.ref (L.b b)), none]) (i := 0) rfl) R3) (sq_of R3.la)
  rw [List.length_map, List.length_range] at n1
  have n2 := ev_lenL (K := K) (rC_attempts T (ev_var (σ := [some (V.ref L.cl), some (V.ref (L.k i)), some (V.bl m), some (V.ref (L.b b)), none]) (i := 1) rfl) (R3.k i hi3)) (sq_of (R3.kl i hi3))
  rw [List.length_map] at n2
  refine q_asgX (x_make (vs := [.int (na ch : Int), .ref (L.k i), .ref (L.b b), .int (((attsOf ch i).length + 1 : Nat) : Int), .int (ch.now : Int)]) (ea_cons n1 (ea_cons (ev_var rfl) (ea_cons (ev_var rfl) (ea_cons (ev_op n2 ev_c rv_I0) (ea_cons (rL_now T (ev_var rfl) R3) ea_nil))))) fun H4 p dp e4 hp4 hd4 nd4 =>
    ⟨_, _, _, _, _, _, rfl, p, dp, L.k i, L.b b, na ch, (attsOf ch i).length + 1, ch.now, rfl, rfl, rfl, rfl, rfl, rfl, upd_same, fun H5 h5 f5 => ⟨rfl, ?_⟩⟩)
  have e5 : Ex H4 H5 := Ex.made hp4 hd4 f5
  have R4 := R3.ex e4
  have R5 := R4.ex e5
  have hA := h5 ⟨i, b, (attsOf ch i).length + 1, ch.now, .running⟩ rfl rfl rfl
  refine q_app R5.la (rL_attempts T (ev_var rfl) R5) (ev_var rfl) (by rw [List.length_map, List.length_range, ra]; exact Nat.lt_of_le_of_lt hz (by decide)) fun H6 e6 => ?_
  have nkl : L.kl i ≠ L.la := (R3.s2 i hi3).2.2.2
  have nk : L.k i ≠ L.la := ins_lst (R5.k i hi3) R5.la
  have c6 : CaAt K (upd H6 L.la (.lst (baL (List.range (na ch)) L.a ++ [.ref p]))) (L.k i) i (L.kl i) (Kp423.callAt ch i) := by
    obtain ⟨d, q⟩ := R5.k i hi3
    exact ⟨d, by rw [upd_ne nk]; exact e6 _ _ q⟩
  have l6 : upd H6 L.la (.lst (baL (List.range (na ch)) L.a ++ [.ref p])) (L.kl i) = some (.lst (baL (attsOf ch i) L.a)) := by
    rw [upd_ne nkl]
    exact e6 _ _ (R5.kl i hi3)
  refine q_app l6 (rC_attempts T (ev_var rfl) c6) (ev_var rfl) (by rw [List.length_map, rat]; exact Nat.lt_of_le_of_lt (Nat.le_trans (Hm.atts_len c i) hz) (by decide)) fun H7 e7 => ?_
  have hAa : p ≠ L.la := ins_lst hA R5.la
  have hAk : p ≠ L.kl i := ins_lst hA (R5.kl i hi3)
  have G8 : Go K H4 L ch (upd H7 (L.kl i) (.lst (baL (attsOf ch i) L.a ++ [.ref p]))) (L.plus ch p) (Hm.added c ch i b) := by
    have ea : Hm.added c ch i b = { ch with attempts := ch.attempts ++ [⟨i, b, (attsOf ch i).length + 1, ch.now, .running⟩] } := by
      unfold Hm.added
      rw [rat, r2]
    rw [ea]
    refine go_add R4 hi3 (by show b < ch.backends.length; rw [r5]; exact hbl) hp4 ?_ ?_ upd_same fun q o hq q1 q2 => ?_
    · obtain ⟨d, q⟩ := hA
      refine ⟨d, ?_⟩
      rw [upd_ne hAk]
      refine e7 _ _ ?_
      rw [upd_ne hAa]
      exact e6 _ _ q
    · rw [upd_ne nkl.symm]
      exact e7 _ _ upd_same
    · rw [upd_ne q2]
      refine e7 _ _ ?_
      rw [upd_ne q1]
      exact e6 _ _ (e5 _ _ hq)
  have G9 := (G3'.then e4).trans G8
  generalize upd H7 (L.kl i) (.lst (baL (attsOf ch i) L.a ++ [.ref p])) = H8 at G8 G9 ⊢
  have bb : Kp423.backendAt (Hm.added c ch i b) b = Kp423.backendAt ch b := rfl
  have hbl2 : b < nb (Hm.added c ch i b) := by show b < ch.backends.length; rw [r5]; exact hbl
  refine q_bk { Kp423.backendAt ch b with outstanding := (Kp423.backendAt ch b).outstanding + 1 } T G9.rep hbl2 (ev_op (rB_outstanding T (ev_var rfl) (G9.rep.b b hbl2)) ev_c rv_I0) (ev_var rfl) T.n_Backend_outstanding rfl fun H10 G10 => ?_
  have G11 := G9.trans G10
  generalize hdd : Kp423.setBackend (Hm.added c ch i b) b { Kp423.backendAt ch b with outstanding := (Kp423.backendAt ch b).outstanding + 1 } = d at G10 G11
  have dca : Kp423.callAt d i = Kp423.callAt c i := by rw [← hdd, ← rca]; rfl
  have dnc : i < nc d := by rw [← hdd]; exact hi3
  have dpo : d.policy = c.policy := by rw [← hdd, ← r1]; rfl
  have dno : d.now = c.now := by rw [← hdd, ← r2]; rfl
  have eno : ∀ x : Kp423.RemoteCall, Hm.hedgeT d x = Hm.hedgeT c x := fun x => Hm.hedge_ext dpo dno
  have est : Hm.started c ch i b m = Kp423.setCall d i { Hm.recounted (Kp423.callAt c i) m with hedgeAt := Hm.hedgeT c (Hm.recounted (Kp423.callAt c i) m) } := by
    rw [← hdd]
    rfl
  rw [est] at k
  cases m with
  | true =>
    refine q_when (b := true) (et_B (ev_var rfl)) (fun _ H12 e12 => ?_) fun z => Bool.noConfusion z
    have R12 := G11.rep.ex e12
    refine s_ck { Kp423.callAt c i with counted := (Kp423.callAt c i).counted + 1 } T R12 dnc (ev_op (rC_counted T (ev_var rfl) (R12.k i dnc)) ev_c rv_I0) (ev_var rfl) T.n_Call_counted (by rw [dca]; rfl) fun H13 G13 => ?_
    refine start_tail T ((G11.then e12).trans G13) dnc rfl rfl fun H14 G14 => k H14 (L.plus ch p) ?_
    rw [eno] at G14
    exact G14
  | false =>
    refine q_when (b := false) (et_B (ev_var rfl)) (fun z => Bool.noConfusion z) fun _ H12 e12 => ?_
    have G12 := G11.then e12
    rw [← setC_self dnc, dca] at G12
    refine start_tail T G12 dnc rfl rfl fun H14 G14 => k H14 (L.plus ch p) ?_
    rw [eno] at G14
    exact G14
theorem x_start {H : Hp} {σ : L2.St} {ta tb tc : TE} {E : XK} {Q : VK} {L : Lay} {c : Kp423.Client} {i : Nat} {m : Bool} (R : Rep K H L c) (W : Hm.Wf c) (hi : i < nc c) (h : Ev ta σ H (.ref L.cl)) (hk : Ev tb σ H (.ref (L.k i))) (hs : Ev tc σ H (.bl m)) (k : ∀ H1 L', Go K H L c H1 L' (Kp423.startAttempt c i m) → Q .non H1) :
    tMeth (He.ga K "Client") "start_attempt" (spStart K) [] E ta (tCons tb (tCons tc tNil)) σ H Q := by
  obtain ⟨dx, hd⟩ := R.cl
  exact x_meth h hd rfl (ea_cons hk (ea_cons hs ea_nil)) fun H1 e1 => ⟨_, _, _, rfl, L, c, i, m, rfl, rfl, rfl, R.ex e1, W, hi, fun H2 L' G2 => k H2 L' (Go.after e1 R G2)⟩
end
end Hc
namespace Hc
open PySem PySem.Spec PyProof.Rows L2 Evl
open Hm (attsOf)
section
variable {P : Program} {w : World} {K : PySem.W.Frag} {mg : Str → Option Value} {base : Heap}
theorem x_op {σ : L2.St} {H : Hp} {ta tb : TE} {r : R2} {x : V} {Q : VK} (ha : Ev ta σ H x) (hb : ∀ H1, Ex H H1 → tb σ H1 fun y H2 => r x y H2 Q) : tOp r ta tb σ H Q := ha H (Ex.refl H) _ hb
theorem Rep.same {H : Hp} {L : Lay} {c : Kp423.Client} (R : Rep K H L c) : Go K H L c H L c := Go.refl R
/-! ### the delay before a retry -/
def spDelay (K : PySem.W.Frag) : Sp := sp3 fun x y z H Q _ => ∃ (L : Lay) (c : Kp423.Client) (i p : Nat), x = .ref L.cl ∧ y = .ref (L.k i) ∧ z = .int (p : Int) ∧ Rep K H L c ∧ Hm.Wf c ∧ i < nc c ∧ ∀ H', Go K H L c H' L { c with seed := (Kp423.retryDelay c i p).2 } → Q (.int ((Kp423.retryDelay c i p).1 : Int)) H'
theorem sc_Client_delay : FnScope ["self", "call", "pushback"] ["self", "call", "pushback"] (defScope s_Client_delay) := ⟨rfl, rfl, rfl, by decide +kernel, rfl, by decide +kernel, by decide +kernel⟩
theorem ok_Client_delay (T : Tx K mg) : Ok P w K mg base CX0 2 (He.ma K (He.ga K "Client") "delay") ["self", "call", "pushback"] (spDelay K) := by
  obtain ⟨fd, F0⟩ := T.def_ 44 (d := d_Client_delay) rfl
  have F : FunD K "delay" "Client.delay" (defArgs s_Client_delay) (defBody s_Client_delay) (defScope s_Client_delay) [] [] (He.ma K (He.ga K "Client") "delay") fd := F0
  refine ⟨fd, F.ok sc_Client_delay sp3_len (fun cdv A outer s H vs Q E hr h => ?_), F.kp, F.bindsN fun _ _ _ _ _ _ us hl => match us, hl with | [_, _, _], _ => rfl⟩
  refine ⟨_, PSs.nox (pss_cons (ps_if (pt_cmpR op_gt (pv 2) (pe_gi T.i_NO_RETRY) (nomark _)) (pss_one (ps_ret (pe_op op_sub (pv 2) pe_int))) pss_nil) (pss_cons (ps_fld (pv 0) (pe_op op_mod (pe_op op_add (pe_op op_mul (pe_gi T.i_SEED_FACTOR) (pe_fld (pv 0) rfl)) (pe_gi T.i_SEED_STEP)) (pe_gi T.i_SEED_RANGE)) rfl) (pss_one (ps_ret (pe_op op_mod (pe_fld (pv 0) rfl) (pe_op op_add (pe_methO (pe_fld (pv 0) rfl) T.c_Policy T.m_Policy_backoff_bound (ok_Policy_backoff_bound T) (hr.mono (by decide)) pass0 (pa_cons (pe_op op_add (pe_fld (pv 1) rfl) pe_int) pa_nil)) pe_int)))))), ?_⟩
  obtain ⟨_, _, _, rfl, L, c, i, p, rfl, rfl, rfl, R, W, hi, k⟩ := h
  refine q_when (et_test (ev_op (ev_var rfl) (ev_c (v := .int ((1 : Nat) : Int))) rv_I0)) (fun hb H1 e1 => ?_) fun hb H1 e1 => ?_
  · have h2 : 2 ≤ p := by
      rw [lt_cast, decide_eq_true_eq] at hb
      omega
    have e : Kp423.retryDelay c i p = (p - 2, c.seed) := if_pos h2
    rw [e] at k
    refine s_ret (v := .int ((p - 2 : Nat) : Int)) (ev_is (ev_op (ev_var rfl) ev_c rv_I0) (congrArg V.int (by omega))) fun H2 e2 => k H2 (Go.ex R (e1.trans e2))
  have h2 : ¬ 2 ≤ p := by
    rw [lt_cast, decide_eq_false_iff_not] at hb
    omega
  have e : Kp423.retryDelay c i p = (Kp423.nextRandom c.seed % (Kp423.backoffBound c.policy ((Kp423.callAt c i).retries + 1) + 1), Kp423.nextRandom c.seed) := if_neg h2
  rw [e] at k
  have R1 := R.ex e1
  refine q_cl { c with seed := Kp423.nextRandom c.seed } T R1 (v := .int (Kp423.nextRandom c.seed : Int)) (ev_is (ev_op (ev_op (ev_op ev_c (rL_seed T (ev_var rfl) R1) (rv_I (Or.inl ⟨by decide, by decide⟩))) ev_c rv_I0) ev_c (rv_I (by decide))) (congrArg V.int ?_)) (ev_var rfl) T.n_Client_seed rfl fun H2 G2 => ?_
  · unfold Kp423.nextRandom
    rw [Int.natCast_emod, Int.natCast_add, Int.natCast_mul]
    rfl
  have R2 := G2.rep
  have hb2 := W.retries hi
  have eb : Ev (tMeth (He.ga K "Policy") "backoff_bound" (spPoBound K) [] E0 (tFld K (tVar 0) "policy") (tCons (tOp (rI0 fun i j => .int (i + j)) (tFld K (tVar 1) "retries") (tC (.int 1))) tNil)) [some (V.ref L.cl), some (V.ref (L.k i)), some (V.int (p : Int))] H2 (.int (Kp423.backoffBound c.policy ((Kp423.callAt c i).retries + 1) : Int)) := by
    obtain ⟨dx, hd⟩ := R2.po
    refine ev_meth (vs := [.int (((Kp423.callAt c i).retries + 1 : Nat) : Int)]) (rL_policy T (ev_var rfl) R2) hd rfl (ea_cons (ev_op (rC_retries T (ev_var rfl) (R2.k i hi)) ev_c rv_I0) ea_nil) (spV_of fun H3 e3 Q E r => ⟨_, _, rfl, L.po, L.re, c.policy, (Kp423.callAt c i).retries + 1, rfl, rfl, (R2.ex e3).po, W.pol.mul, by omega, by omega, r⟩)
  refine s_ret (ev_is (ev_op (rL_seed T (ev_var rfl) R2) (ev_op eb ev_c rv_I0) (rv_I (by show (0 : Int) < (Kp423.backoffBound c.policy ((Kp423.callAt c i).retries + 1) : Int) + 1; omega))) (congrArg V.int ?_)) fun H3 e3 => k H3 ((Go.after e1 R G2).then e3)
  rw [Int.natCast_emod]
  rfl
def spRetryEnd (K : PySem.W.Frag) : Sp := sp4 fun x y z u H Q _ => ∃ (L : Lay) (c : Kp423.Client) (i s p : Nat), x = .ref L.cl ∧ y = .ref (L.k i) ∧ z = .int (s : Int) ∧ u = .int (p : Int) ∧ Rep K H L c ∧ Hm.Wf c ∧ i < nc c ∧ ∀ H', Go K H L c H' L (Hm.retryOrEnd c i s p) → Q .non H'
theorem sc_Client_retry_or_end : FnScope ["self", "call", "status", "pushback", "time"] ["self", "call", "status", "pushback"] (defScope s_Client_retry_or_end) := ⟨rfl, rfl, rfl, by decide +kernel, rfl, by decide +kernel, by decide +kernel⟩
theorem ok_Client_retry_or_end (T : Tx K mg) : Ok P w K mg base CX0 4 (He.ma K (He.ga K "Client") "retry_or_end") ["self", "call", "status", "pushback"] (spRetryEnd K) := by
  obtain ⟨fd, F0⟩ := T.def_ 43 (d := d_Client_retry_or_end) rfl
  have F : FunD K "retry_or_end" "Client.retry_or_end" (defArgs s_Client_retry_or_end) (defBody s_Client_retry_or_end) (defScope s_Client_retry_or_end) [] [] (He.ma K (He.ga K "Client") "retry_or_end") fd := F0
  refine ⟨fd, F.ok sc_Client_retry_or_end sp4_len (fun cdv A outer s H vs Q E hr h => ?_), F.kp, F.bindsN fun _ _ _ _ _ _ us hl => match us, hl with | [_, _, _, _], _ => rfl⟩
  refine ⟨_, PSs.nox (pss_cons (ps_if (PW.pt (pw_or (pt_cmpR op_eq (pv 3) (pe_gi T.i_NO_RETRY) (nomark _)) (pw_or (pt_cmpR op_ge (pe_fld (pv 1) rfl) (pe_fld (pe_fld (pv 0) rfl) rfl) (nomark _)) (pw_or1 (pt_not (pt_val (pe_meth0O (pv 0) T.c_Client T.m_Client_is_allowed (ok_Client_is_allowed T) (hr.mono (by decide)) pass0))))))) (pss_cons (ps_expr (pe_methO (pv 0) T.c_Client T.m_Client_end_call (ok_Client_end_call T) (hr.mono (by decide)) pass0 (pa_cons (pv 1) (pa_cons (pv 2) pa_nil)))) (pss_one ps_retN)) pss_nil) (pss_cons (ps_set (i := 4) sc_Client_retry_or_end.nd rfl (Or.inl rfl) (pe_op op_add (pe_fld (pv 0) rfl) (pe_methO (pv 0) T.c_Client T.m_Client_delay (ok_Client_delay T) (hr.mono (by decide)) pass0 (pa_cons (pv 1) (pa_cons (pv 3) pa_nil))))) (pss_cons (ps_if (pt_cmpR op_ge (pv 4) (pe_fld (pv 1) rfl) (nomark _)) (pss_cons (ps_expr (pe_methO (pv 0) T.c_Client T.m_Client_end_call (ok_Client_end_call T) (hr.mono (by decide)) pass0 (pa_cons (pv 1) (pa_cons (pv 2) pa_nil)))) (pss_one ps_retN)) pss_nil) (pss_cons (ps_fld (pv 1) (pe_op op_add (pe_fld (pv 1) rfl) pe_int) rfl) (pss_cons (ps_fld (pv 0) (pe_op op_add (pe_fld (pv 0) rfl) pe_int) rfl) (pss_cons (ps_fld (pv 1) (pv 4) rfl) (pss_one (ps_fld (pv 1) pe_non rfl)))))))), ?_⟩
  obtain ⟨_, _, _, _, rfl, L, c, i, s2, p, rfl, rfl, rfl, rfl, R, W, hi, k⟩ := h
  unfold Hm.retryOrEnd at k
  dsimp only at k
  refine q_when (et_or (et_eqN (b := 1) (ev_var rfl) ev_c) fun _ => et_or (et_test (ev_op (rC_counted T (ev_var rfl) (R.k i hi)) (rP_max_attempts T (rL_policy T (ev_var rfl) R) R.po) rv_I0)) fun _ => et_not (et_B (ev_mt (f := alwV) (ev_var rfl) R W rfl))) (fun hb H1 e1 => ?_) fun hb H1 e1 => ?_
  · have hq : p = 1 ∨ c.policy.maxAttempts ≤ (Kp423.callAt c i).counted ∨ Kp423.budgetAllows c = false := by
      rw [le_cast] at hb
      simpa using hb
    rw [if_pos hq] at k
    exact q_dropX (x_end (R.ex e1) W hi (ev_var rfl) (ev_var rfl) (ev_var rfl) fun H2 G2 => s_retN (k H2 (Go.after e1 R G2)))
  have hq : ¬ (p = 1 ∨ c.policy.maxAttempts ≤ (Kp423.callAt c i).counted ∨ Kp423.budgetAllows c = false) := by
    rw [le_cast] at hb
    simp at hb
    intro z
    rcases z with z | z | z
    · exact hb.1 z
    · omega
    · rw [hb.2.2] at z
      cases z
  rw [if_neg hq] at k
  have R1 := R.ex e1
  obtain ⟨dx, hd⟩ := R1.cl
  refine q_asgX (x_op (rL_now T (ev_var rfl) R1) fun H2 e2 => x_meth (ev_var rfl) (e2 _ _ hd) rfl (ea_cons (ev_var rfl) (ea_cons (ev_var rfl) ea_nil)) fun H3 e3 => ⟨_, _, _, rfl, L, c, i, p, rfl, rfl, rfl, (R1.ex e2).ex e3, W, hi, fun H4 G4 => ⟨_, _, rfl, rfl, ?_⟩⟩)
  have G5 : Go K H L c H4 L { c with seed := (Kp423.retryDelay c i p).2 } := Go.after (e1.trans (e2.trans e3)) R G4
  have W5 : Hm.Wf { c with seed := (Kp423.retryDelay c i p).2 } := W.nums' rfl rfl rfl rfl rfl
  have R5 := G5.rep
  refine q_when (et_test (ev_op (ev_var (v := .int ((c.now + (Kp423.retryDelay c i p).1 : Nat) : Int)) rfl) (rC_deadline T (ev_var rfl) (R5.k i hi)) rv_I0)) (fun hb2 H5 e5 => ?_) fun hb2 H5 e5 => ?_
  · rw [le_cast, decide_eq_true_eq] at hb2
    rw [if_pos (by exact hb2)] at k
    exact q_dropX (x_end (R5.ex e5) W5 hi (ev_var rfl) (ev_var rfl) (ev_var rfl) fun H6 G6 => s_retN (k H6 ((G5.then e5).trans G6)))
  rw [le_cast, decide_eq_false_iff_not] at hb2
  rw [if_neg (by exact hb2)] at k
  have R6 := R5.ex e5
  refine q_ck { Kp423.callAt c i with retries := (Kp423.callAt c i).retries + 1 } T R6 hi (ev_op (rC_retries T (ev_var rfl) (R6.k i hi)) ev_c rv_I0) (ev_var rfl) T.n_Call_retries rfl fun H7 G7 => ?_
  refine q_cl { Kp423.setCall { c with seed := (Kp423.retryDelay c i p).2 } i { Kp423.callAt c i with retries := (Kp423.callAt c i).retries + 1 } with retryCount := c.retryCount + 1 } T G7.rep (ev_op (rL_retryCount T (ev_var rfl) G7.rep) ev_c rv_I0) (ev_var rfl) T.n_Client_retry_count rfl fun H8 G8 => ?_
  have G9 : Go K H L c H8 L (Kp423.setCall { c with seed := (Kp423.retryDelay c i p).2, retryCount := c.retryCount + 1 } i { Kp423.callAt c i with retries := (Kp423.callAt c i).retries + 1 }) := ((G5.then e5).trans G7).trans G8
  have hi9 : i < nc { c with seed := (Kp423.retryDelay c i p).2, retryCount := c.retryCount + 1 } := hi
  refine q_ck2 { Kp423.callAt c i with retries := (Kp423.callAt c i).retries + 1, retryAt := some (c.now + (Kp423.retryDelay c i p).1) } T G9 hi9 (ev_var (v := .int ((c.now + (Kp423.retryDelay c i p).1 : Nat) : Int)) rfl) (ev_var rfl) T.n_Call_retry_at rfl fun H10 G10 => ?_
  exact s_ck2 { Kp423.callAt c i with retries := (Kp423.callAt c i).retries + 1, retryAt := some (c.now + (Kp423.retryDelay c i p).1), hedgeAt := none } T G10 hi9 ev_c (ev_var rfl) T.n_Call_hedge_at rfl fun H11 G11 => k H11 G11
def spFollow (K : PySem.W.Frag) : Sp := sp4 fun x y z u H Q _ => ∃ (L : Lay) (c : Kp423.Client) (i s p : Nat), x = .ref L.cl ∧ y = .ref (L.k i) ∧ z = .int (s : Int) ∧ u = .int (p : Int) ∧ Rep K H L c ∧ Hm.Wf c ∧ i < nc c ∧ ∀ H' L', Go K H L c H' L' (Kp423.handleFailure c i s p) → Q .non H'
theorem el_running {H : Hp} {σ : L2.St} {ta : TE} {E : XK} {L : Lay} {c : Kp423.Client} {i : Nat} (R : Rep K H L c) (W : Hm.Wf c) (hi : i < nc c) (h : Ev ta σ H (.ref (L.k i))) : EvL (tMeth (He.ga K "Call") "running" (spRunning K) [] E ta tNil) σ H (baL (Kp423.runningOf c i) L.a) := by
  obtain ⟨dx, hd⟩ := R.k i hi
  refine el_meth h hd rfl ea_nil (spL_of fun H5 e5 Q E r => ⟨_, rfl, L.k i, L.kl i, i, _, attsOf c i, L.a, L.k, L.b, Kp423.attemptAt c, rfl, (R.k i hi).ex e5, e5 _ _ (R.kl i hi), (R.ex e5).ats fun j hj => Hm.atts_lt hj, Nat.le_trans (Hm.atts_len _ i) (na_z W), ?_⟩)
  rw [Hm.running_is]
  exact r
theorem sc_Client_follow_failure : FnScope ["self", "call", "status", "pushback"] ["self", "call", "status", "pushback"] (defScope s_Client_follow_failure) := ⟨rfl, rfl, rfl, by decide +kernel, rfl, by decide +kernel, by decide +kernel⟩
theorem ok_Client_follow_failure (T : Tx K mg) : Ok P w K mg base CX0 8 (He.ma K (He.ga K "Client") "follow_failure") ["self", "call", "status", "pushback"] (spFollow K) := by
  obtain ⟨fd, F0⟩ := T.def_ 41 (d := d_Client_follow_failure) rfl
  have F : FunD K "follow_failure" "Client.follow_failure" (defArgs s_Client_follow_failure) (defBody s_Client_follow_failure) (defScope s_Client_follow_failure) [] [] (He.ma K (He.ga K "Client") "follow_failure") fd := F0
  refine ⟨fd, F.ok sc_Client_follow_failure sp4_len (fun cdv A outer s H vs Q E hr h => ?_), F.kp, F.bindsN fun _ _ _ _ _ _ us hl => match us, hl with | [_, _, _, _], _ => rfl⟩
  refine ⟨_, PSs.nox (pss_cons (ps_if (PW.pt (pw_and (pt_cmpR op_eq (pv 2) (pe_gi T.i_REFUSED_STATUS) (nomark _)) (pw_and (pt_not (pt_val (pe_fld (pv 1) rfl))) (pw_and1 (pt_cmpR op_lt (pe_fld (pv 0) rfl) (pe_fld (pv 1) rfl) (nomark _)))))) (pss_cons (ps_fld (pv 1) pe_bl rfl) (pss_cons (ps_fld (pv 0) (pe_op op_add (pe_fld (pv 0) rfl) pe_int) rfl) (pss_cons (ps_expr (pe_methO (pv 0) T.c_Client T.m_Client_start_attempt (ok_Client_start_attempt T) (hr.mono (by decide)) pass0 (pa_cons (pv 1) (pa_cons pe_bl pa_nil)))) (pss_one ps_retN)))) pss_nil) (pss_cons (ps_if (PW.pt (pw_and (pt_cmpR op_ne (pv 2) (pe_gi T.i_REFUSED_STATUS) (nomark _)) (pw_and1 (pt_not (pt_val (pe_methO (pv 0) T.c_Client T.m_Client_is_retryable (ok_Client_is_retryable T) (hr.mono (by decide)) pass0 (pa_cons (pv 1) (pa_cons (pv 2) pa_nil)))))))) (pss_cons (ps_expr (pe_methO (pv 0) T.c_Client T.m_Client_end_call (ok_Client_end_call T) (hr.mono (by decide)) pass0 (pa_cons (pv 1) (pa_cons (pv 2) pa_nil)))) (pss_one ps_retN)) pss_nil) (pss_cons (ps_fld (pv 0) (pe_callB (call_max2 rfl) rfl T.b_max (by decide +kernel) (pa_cons (pe_op op_sub (pe_fld (pv 0) rfl) (pe_gi T.i_TOKEN)) (pa_cons pe_int pa_nil))) rfl) (pss_one (ps_if (pt_cmpR (op_eqE hr.units0) (pe_meth0O (pv 1) T.c_Call T.m_Call_running (ok_Call_running T) (hr.mono (by decide)) pass0) (pe_lst pa_nil) (nomark _)) (pss_one (ps_expr (pe_methO (pv 0) T.c_Client T.m_Client_retry_or_end (ok_Client_retry_or_end T) (hr.mono (by decide)) pass0 (pa_cons (pv 1) (pa_cons (pv 2) (pa_cons (pv 3) pa_nil)))))) pss_nil))))), ?_⟩
  obtain ⟨_, _, _, _, rfl, L, c, i, s2, p, rfl, rfl, rfl, rfl, R, W, hi, k⟩ := h
  rw [Hm.failure_is] at k
  refine q_when (et_and (et_eqN (b := 100) (ev_var rfl) ev_c) fun _ => et_and (et_not (et_B (rC_transparent T (ev_var rfl) (R.k i hi)))) fun _ => et_test (ev_op (rL_now T (ev_var rfl) R) (rC_deadline T (ev_var rfl) (R.k i hi)) rv_I0)) (fun hb H1 e1 => ?_) fun hb H1 e1 => ?_
  · have hq : s2 = 100 ∧ (Kp423.callAt c i).transparent = false ∧ c.now < (Kp423.callAt c i).deadline := by
      rw [lt_cast] at hb
      simpa using hb
    rw [if_pos hq] at k
    have R1 := R.ex e1
    refine q_ck { Kp423.callAt c i with transparent := true } T R1 hi ev_c (ev_var rfl) T.n_Call_has_transparent rfl fun H2 G2 => ?_
    refine q_cl (Hm.tring c i) T G2.rep (ev_op (rL_transparentCount T (ev_var rfl) G2.rep) ev_c rv_I0) (ev_var rfl) T.n_Client_transparent_count rfl fun H3 G3 => ?_
    have hi3 : i < nc (Hm.tring c i) := by show i < (c.calls.set i _).length; rw [List.length_set]; exact hi
    exact q_dropX (x_start (m := false) G3.rep (W.tring hi) hi3 (ev_var rfl) (ev_var rfl) ev_c fun H4 L' G4 => s_retN (k H4 L' ((Go.after e1 R G2).trans (G3.trans G4))))
  have hq : ¬ (s2 = 100 ∧ (Kp423.callAt c i).transparent = false ∧ c.now < (Kp423.callAt c i).deadline) := by
    rw [lt_cast] at hb
    intro z
    simp [z.1, z.2.1, z.2.2] at hb
  rw [if_neg hq] at k
  have R1 := R.ex e1
  obtain ⟨dx, hd⟩ := R1.cl
  refine q_when (et_and (b := !((Kp423.callAt c i).idempotent && c.policy.retryable.contains s2)) (et_is (et_test (ev_op (ev_var rfl) (ev_c (v := .int ((100 : Nat) : Int))) (rv_ne rfl))) (congrArg not (eq_cast s2 100))) fun _ => et_not (et_B (ev_meth (ev_var rfl) hd rfl (ea_cons (ev_var rfl) (ea_cons (ev_var rfl) ea_nil)) (spV_of fun H2 e2 Q E r => ⟨_, _, _, rfl, L, c, i, s2, rfl, rfl, rfl, R1.ex e2, hi, r⟩)))) (fun hb2 H2 e2 => ?_) fun hb2 H2 e2 => ?_
  · have hr : Kp423.isRetryable c i s2 = false := by
      unfold Kp423.isRetryable
      rw [Bool.and_eq_true] at hb2
      rw [Bool.or_eq_false_iff]
      exact ⟨by simpa [Kp423.statusRefused] using hb2.1, by have z := hb2.2; rwa [Bool.not_eq_true'] at z⟩
    rw [if_pos hr] at k
    exact q_dropX (x_end (R1.ex e2) W hi (ev_var rfl) (ev_var rfl) (ev_var rfl) fun H3 G3 => s_retN (k H3 L (Go.after (e1.trans e2) R G3)))
  have hr : ¬ Kp423.isRetryable c i s2 = false := by
    intro z
    unfold Kp423.isRetryable at z
    rw [Bool.or_eq_false_iff] at z
    have z1 : s2 ≠ 100 := by simpa [Kp423.statusRefused] using z.1
    rw [z.2] at hb2
    simp [z1] at hb2
  rw [if_neg hr] at k
  have R2 := R1.ex e2
  refine q_cl (Hm.charged c) T R2 (v := .int ((c.tokens - 1000 : Nat) : Int)) (ev_is (ev_max2 (ev_op (rL_tokens T (ev_var rfl) R2) ev_c rv_I0) ev_c) (congrArg V.int ?_)) (ev_var rfl) T.n_Client_tokens rfl fun H3 G3 => ?_
  · split <;> omega
  have G4 : Go K H L c H3 L (Hm.charged c) := Go.after (e1.trans e2) R G3
  have R4 := G4.rep
  have W4 : Hm.Wf (Hm.charged c) := W.charged
  have hi4 : i < nc (Hm.charged c) := hi
  refine s_when (et_test (ev_emp (K := K) (neg := false) (el_running R4 W4 hi4 (ev_var rfl)) fun _ _ => el_nil)) (fun hb3 H4 e4 => ?_) fun hb3 H4 e4 => ?_
  · have hn : ¬ Kp423.runningOf c i ≠ [] := fun z => z (by
      have : Kp423.runningOf (Hm.charged c) i = [] := by simpa using hb3
      exact this)
    rw [if_neg hn] at k
    obtain ⟨dx4, hd4⟩ := (R4.ex e4).cl
    exact s_dropX (x_meth (ev_var rfl) hd4 rfl (ea_cons (ev_var rfl) (ea_cons (ev_var rfl) (ea_cons (ev_var rfl) ea_nil))) fun H5 e5 => ⟨_, _, _, _, rfl, L, Hm.charged c, i, s2, p, rfl, rfl, rfl, rfl, (R4.ex e4).ex e5, W4, hi4, fun H6 G6 => k H6 L ((G4.then (e4.trans e5)).trans G6)⟩)
  · have hn : Kp423.runningOf c i ≠ [] := fun z => by
      have : ¬ Kp423.runningOf (Hm.charged c) i = [] := by simpa using hb3
      exact this z
    rw [if_pos hn] at k
    exact k H4 L (G4.then e4)
def spFail (K : PySem.W.Frag) : Sp := sp2 fun x y H Q _ => ∃ (L : Lay) (c : Kp423.Client) (i : Nat), x = .ref L.cl ∧ y = .ref (L.b i) ∧ Rep K H L c ∧ Hm.Wf c ∧ i < nb c ∧ ∀ H', Go K H L c H' L (Kp423.noteFailure c i) → Q .non H'
theorem sc_Client_fail_backend : FnScope ["self", "backend"] ["self", "backend"] (defScope s_Client_fail_backend) := ⟨rfl, rfl, rfl, by decide +kernel, rfl, by decide +kernel, by decide +kernel⟩
theorem ok_Client_fail_backend (T : Tx K mg) : Ok P w K mg base CX0 4 (He.ma K (He.ga K "Client") "fail_backend") ["self", "backend"] (spFail K) := by
  obtain ⟨fd, F0⟩ := T.def_ 38 (d := d_Client_fail_backend) rfl
  have F : FunD K "fail_backend" "Client.fail_backend" (defArgs s_Client_fail_backend) (defBody s_Client_fail_backend) (defScope s_Client_fail_backend) [] [] (He.ma K (He.ga K "Client") "fail_backend") fd := F0
  refine ⟨fd, F.ok sc_Client_fail_backend sp2_len (fun cdv A outer s H vs Q E hr h => ?_), F.kp, F.bindsN fun _ _ _ _ _ _ us hl => match us, hl with | [_, _], _ => rfl⟩
  refine ⟨_, PSs.nox (pss_cons (ps_fld (pv 1) (pe_op op_add (pe_fld (pv 1) rfl) pe_int) rfl) (pss_one (ps_if (pt_val (pe_methO (pv 0) T.c_Client T.m_Client_is_to_eject (ok_Client_is_to_eject T) (hr.mono (by decide)) pass0 (pa_cons (pv 1) pa_nil))) (pss_one (ps_expr (pe_methO (pv 1) T.c_Backend T.m_Backend_eject (ok_Backend_eject T) (hr.mono (by decide)) pass0 (pa_cons (pe_fld (pv 0) rfl) (pa_cons (pe_fld (pe_fld (pv 0) rfl) rfl) pa_nil))))) pss_nil))), ?_⟩
  obtain ⟨_, _, rfl, L, c, i, rfl, rfl, R, W, hi, k⟩ := h
  rw [Hm.note_is c i hi] at k
  refine q_bk { Kp423.backendAt c i with failures := (Kp423.backendAt c i).failures + 1 } T R hi (ev_op (rB_failures T (ev_var rfl) (R.b i hi)) ev_c rv_I0) (ev_var rfl) T.n_Backend_failures rfl fun H1 G1 => ?_
  have R1 : Rep K H1 L (Hm.failed c i) := G1.rep
  have W1 : Hm.Wf (Hm.failed c i) := W.setB rfl
  have hi1 : i < nb (Hm.failed c i) := by show i < (c.backends.set i _).length; rw [List.length_set]; exact hi
  obtain ⟨dx, hd⟩ := R1.cl
  refine s_when (et_B (ev_meth (z := .bl (Hm.toEject (Hm.failed c i) i)) (ev_var rfl) hd rfl (ea_cons (ev_var rfl) ea_nil) (spV_of fun H2 e2 Q E r => ⟨_, _, rfl, L, Hm.failed c i, i, rfl, rfl, R1.ex e2, W1, hi1, r⟩))) (fun hb H2 e2 => ?_) fun hb H2 e2 => ?_
  · rw [if_pos hb] at k
    have R2 := R1.ex e2
    obtain ⟨db, hdb⟩ := R2.b i hi1
    exact s_dropX (x_meth (ev_var rfl) hdb rfl (ea_cons (rL_now T (ev_var rfl) R2) (ea_cons (rP_time T (rL_policy T (ev_var rfl) R2) R2.po) ea_nil)) fun H3 e3 => ⟨_, _, _, rfl, L.b i, i, c.now, c.policy.ejectionTime, Kp423.backendAt (Hm.failed c i) i, rfl, rfl, rfl, W.pol.time, (R2.ex e3).b i hi1, fun H4 b4 => k H4 ((Go.trans G1 (Go.ex R1 (e2.trans e3))).trans (go_ba (R2.ex e3) hi1 b4))⟩)
  · rw [if_neg (by rw [hb]; decide)] at k
    exact k H2 (G1.then e2)
end
end Hc
namespace Hc
open PySem PySem.Spec PyProof.Rows L2 Evl
open Hm (attsOf nowC)
section
variable {P : Program} {w : World} {K : PySem.W.Frag} {mg : Str → Option Value} {base : Heap}
/-! ### an attempt ends -/
def spEndA (K : PySem.W.Frag) : Sp := sp4 fun x y z u H Q _ => ∃ (L : Lay) (c : Kp423.Client) (j s p : Nat), x = .ref L.cl ∧ y = .ref (L.a j) ∧ z = .int (s : Int) ∧ u = .int (p : Int) ∧ Rep K H L c ∧ Hm.Wf c ∧ j < na c ∧ Kp423.isRunning (Kp423.attemptAt c j) = true ∧ ∀ H' L', Go K H L c H' L' (Kp423.completeAttempt c j s p) → Q .non H'
theorem ended_at {c : Kp423.Client} {j : Nat} {s : Kp423.AttemptState} (h : j < na c) : Kp423.attemptAt (Hm.ended c j s) j = { Kp423.attemptAt c j with state := s } := Hm.at_same h
theorem at_ext {c d : Kp423.Client} (h : d.attempts = c.attempts) (j : Nat) : Kp423.attemptAt d j = Kp423.attemptAt c j := by
  unfold Kp423.attemptAt
  rw [h]
theorem min_is (a b : Nat) : (if (b : Int) < (a : Int) then (b : Int) else (a : Int)) = ((min b a : Nat) : Int) := by
  split <;> omega
theorem max_is (a b : Nat) : (if (b : Int) > (a : Int) then (b : Int) else (a : Int)) = ((max a b : Nat) : Int) := by
  split <;> omega
theorem sc_Client_end_attempt : FnScope ["self", "attempt", "status", "pushback"] ["self", "attempt", "status", "pushback"] (defScope s_Client_end_attempt) := ⟨rfl, rfl, rfl, by decide +kernel, rfl, by decide +kernel, by decide +kernel⟩
theorem ok_Client_end_attempt (T : Tx K mg) : Ok P w K mg base CX0 9 (He.ma K (He.ga K "Client") "end_attempt") ["self", "attempt", "status", "pushback"] (spEndA K) := by
  obtain ⟨fd, F0⟩ := T.def_ 40 (d := d_Client_end_attempt) rfl
  have F : FunD K "end_attempt" "Client.end_attempt" (defArgs s_Client_end_attempt) (defBody s_Client_end_attempt) (defScope s_Client_end_attempt) [] [] (He.ma K (He.ga K "Client") "end_attempt") fd := F0
  refine ⟨fd, F.ok sc_Client_end_attempt sp4_len (fun cdv A outer s H vs Q E hr h => ?_), F.kp, F.bindsN fun _ _ _ _ _ _ us hl => match us, hl with | [_, _, _, _], _ => rfl⟩
  refine ⟨_, PSs.nox (pss_cons (ps_expr (pe_methO (pv 1) T.c_Attempt T.m_Attempt_leave (ok_Attempt_leave T) (hr.mono (by decide)) pass0 (pa_cons (pe_gi T.i_FINISHED) (pa_cons (pv 2) pa_nil)))) (pss_cons (ps_if (pt_cmpR op_eq (pv 2) (pe_gi T.i_OK) (nomark _)) (pss_cons (ps_fld (pe_fld (pv 1) rfl) pe_int rfl) (pss_cons (ps_fld (pv 0) (pe_callB (call_min2 rfl) rfl T.b_min (by decide +kernel) (pa_cons (pe_op op_add (pe_fld (pv 0) rfl) (pe_fld (pe_fld (pv 0) rfl) rfl)) (pa_cons (pe_meth0O (pe_fld (pv 0) rfl) T.c_Policy T.m_Policy_most_tokens (ok_Policy_most_tokens T) (hr.mono (by decide)) pass0) pa_nil))) rfl) (pss_cons (ps_expr (pe_methO (pv 0) T.c_Client T.m_Client_end_call (ok_Client_end_call T) (hr.mono (by decide)) pass0 (pa_cons (pe_fld (pv 1) rfl) (pa_cons (pe_gi T.i_OK) pa_nil)))) (pss_one ps_retN)))) pss_nil) (pss_cons (ps_if (PW.pt (pw_or (pt_cmpR op_eq (pv 2) (pe_gi T.i_UNKNOWN) (nomark _)) (pw_or1 (pt_cmpR op_eq (pv 2) (pe_gi T.i_UNAVAILABLE) (nomark _))))) (pss_one (ps_expr (pe_methO (pv 0) T.c_Client T.m_Client_fail_backend (ok_Client_fail_backend T) (hr.mono (by decide)) pass0 (pa_cons (pe_fld (pv 1) rfl) pa_nil)))) pss_nil) (pss_one (ps_expr (pe_methO (pv 0) T.c_Client T.m_Client_follow_failure (ok_Client_follow_failure T) (hr.mono (by decide)) pass0 (pa_cons (pe_fld (pv 1) rfl) (pa_cons (pv 2) (pa_cons (pv 3) pa_nil))))))))), ?_⟩
  obtain ⟨_, _, _, _, rfl, L, c, j, s2, p, rfl, rfl, rfl, rfl, R, W, hj, hrun, k⟩ := h
  rw [Hm.complete_is] at k
  have aok := W.at' j hj
  refine q_dropX (x_leave (st := .finished s2) (s := 1) (t := s2) T R W hj hrun rfl rfl (ev_var rfl) ev_c (ev_var rfl) fun H1 G1 => ?_)
  have R1 := G1.rep
  have W1 : Hm.Wf (Hm.ended c j (.finished s2)) := W.ended hj hrun (by intro z; cases z)
  obtain ⟨p1, p2, p3, p4, p5, p6⟩ := Hm.ended_parts c j (.finished s2)
  have hj1 : j < na (Hm.ended c j (.finished s2)) := by rw [show na _ = _ from p6]; exact hj
  have ea := ended_at (s := .finished s2) hj
  have A1 : AtAt K H1 (L.a j) j (L.k (Kp423.attemptAt c j).call) (L.b (Kp423.attemptAt c j).backend) { Kp423.attemptAt c j with state := .finished s2 } := by
    have z := R1.a j hj1
    rw [ea] at z
    exact z
  have hb1 : (Kp423.attemptAt c j).backend < nb (Hm.ended c j (.finished s2)) := by rw [show nb _ = _ from p5]; exact aok.backend
  have hc1 : (Kp423.attemptAt c j).call < nc (Hm.ended c j (.finished s2)) := aok.call
  refine q_when (et_eqN (b := 0) (ev_var rfl) ev_c) (fun hb H2 e2 => ?_) fun hb H2 e2 => ?_
  · have h0 : s2 = 0 := of_decide_eq_true hb
    rw [if_pos h0] at k
    have R2 := R1.ex e2
    have A2 := A1.ex e2
    refine q_bk { Kp423.backendAt (Hm.ended c j (.finished s2)) (Kp423.attemptAt c j).backend with failures := 0 } T R2 hb1 ev_c (rA_backend T (ev_var rfl) A2) T.n_Backend_failures rfl fun H3 G3 => ?_
    have G3' : Go K H L c H3 L (Hm.cleared (Hm.ended c j (.finished s2)) (Kp423.attemptAt c j).backend) := (G1.then e2).trans G3
    have R3 := G3'.rep
    have W3 : Hm.Wf (Hm.cleared (Hm.ended c j (.finished s2)) (Kp423.attemptAt c j).backend) := W1.setB rfl
    have hj3 : j < na (Hm.cleared (Hm.ended c j (.finished s2)) (Kp423.attemptAt c j).backend) := hj1
    have A3 : AtAt K H3 (L.a j) j (L.k (Kp423.attemptAt c j).call) (L.b (Kp423.attemptAt c j).backend) { Kp423.attemptAt c j with state := .finished s2 } := by
      have z := R3.a j hj3
      have e : Kp423.attemptAt (Hm.cleared (Hm.ended c j (.finished s2)) (Kp423.attemptAt c j).backend) j = { Kp423.attemptAt c j with state := .finished s2 } := ea
      rw [e] at z
      exact z
    refine q_cl { Hm.cleared (Hm.ended c j (.finished s2)) (Kp423.attemptAt c j).backend with tokens := min (c.policy.maxTokens * 1000) (c.tokens + c.policy.refund) } T R3
      (v := .int ((min (c.policy.maxTokens * 1000) (c.tokens + c.policy.refund) : Nat) : Int)) (ev_is (ev_min2 (i := ((c.tokens + c.policy.refund : Nat) : Int)) (ev_op (rL_tokens T (ev_var rfl) R3) (rP_refund T (rL_policy T (ev_var rfl) R3) R3.po) rv_I0) (ev_most (rL_policy T (ev_var rfl) R3) R3.po)) (congrArg V.int (min_is _ _))) (ev_var rfl) T.n_Client_tokens rfl fun H4 G4 => ?_
    have R4 := G4.rep
    have W4 : Hm.Wf { Hm.cleared (Hm.ended c j (.finished s2)) (Kp423.attemptAt c j).backend with tokens := min (c.policy.maxTokens * 1000) (c.tokens + c.policy.refund) } := Hm.Wf.nums' (c' := { Hm.cleared (Hm.ended c j (.finished s2)) (Kp423.attemptAt c j).backend with tokens := min (c.policy.maxTokens * 1000) (c.tokens + c.policy.refund) }) W3 rfl rfl rfl rfl rfl
    have A4 : AtAt K H4 (L.a j) j (L.k (Kp423.attemptAt c j).call) (L.b (Kp423.attemptAt c j).backend) { Kp423.attemptAt c j with state := .finished s2 } := by
      have z := R4.a j hj3
      have e : Kp423.attemptAt { Hm.cleared (Hm.ended c j (.finished s2)) (Kp423.attemptAt c j).backend with tokens := min (c.policy.maxTokens * 1000) (c.tokens + c.policy.refund) } j = { Kp423.attemptAt c j with state := .finished s2 } := ea
      rw [e] at z
      exact z
    exact q_dropX (x_end (s := 0) R4 W4 hc1 (ev_var rfl) (rA_call T (ev_var rfl) A4) ev_c fun H5 G5 => s_retN (k H5 L ((G3'.trans G4).trans G5)))
  have h0 : s2 ≠ 0 := of_decide_eq_false hb
  rw [if_neg h0] at k
  have R2 := R1.ex e2
  have A2 := A1.ex e2
  refine q_when (et_or (et_eqN (b := 2) (ev_var rfl) ev_c) fun _ => et_eqN (b := 14) (ev_var rfl) ev_c) (fun hb2 H3 e3 => ?_) fun hb2 H3 e3 => ?_
  · have h2 : s2 = 2 ∨ s2 = 14 := by simpa using hb2
    rw [if_pos h2] at k
    have R3 := R2.ex e3
    obtain ⟨dx, hd⟩ := R3.cl
    refine s_dropX (x_meth (ev_var rfl) hd rfl (ea_cons (rA_backend T (ev_var rfl) (A2.ex e3)) ea_nil) fun H4 e4 => ⟨_, _, rfl, L, Hm.ended c j (.finished s2), (Kp423.attemptAt c j).backend, rfl, rfl, R3.ex e4, W1, hb1, fun H5 G5 => ?_⟩)
    have G5' : Go K H L c H5 L (Kp423.noteFailure (Hm.ended c j (.finished s2)) (Kp423.attemptAt c j).backend) := ((G1.then e2).then (e3.trans e4)).trans G5
    have R5 := G5'.rep
    obtain ⟨q1, q2⟩ := Hm.note_parts (Hm.ended c j (.finished s2)) (Kp423.attemptAt c j).backend
    have hj5 : j < na (Kp423.noteFailure (Hm.ended c j (.finished s2)) (Kp423.attemptAt c j).backend) := by
      show j < List.length _
      rw [q2]
      exact hj1
    have hc5 : (Kp423.attemptAt c j).call < nc (Kp423.noteFailure (Hm.ended c j (.finished s2)) (Kp423.attemptAt c j).backend) := by
      show _ < List.length _
      rw [q1]
      exact hc1
    have A5 : AtAt K H5 (L.a j) j (L.k (Kp423.attemptAt c j).call) (L.b (Kp423.attemptAt c j).backend) { Kp423.attemptAt c j with state := .finished s2 } := by
      have z := R5.a j hj5
      have e : Kp423.attemptAt (Kp423.noteFailure (Hm.ended c j (.finished s2)) (Kp423.attemptAt c j).backend) j = { Kp423.attemptAt c j with state := .finished s2 } :=
         (at_ext q2 j).trans ea
      rw [e] at z
      exact z
    obtain ⟨dx5, hd5⟩ := R5.cl
    exact s_dropX (x_meth (ev_var rfl) hd5 rfl (ea_cons (rA_call T (ev_var rfl) A5) (ea_cons (ev_var rfl) (ea_cons (ev_var rfl) ea_nil))) fun H6 e6 => ⟨_, _, _, _, rfl, L, _, (Kp423.attemptAt c j).call, s2, p, rfl, rfl, rfl, rfl, R5.ex e6, W1.note _, hc5, fun H7 L' G7 => k H7 L' ((G5'.then e6).trans G7)⟩)
  · have h2 : ¬ (s2 = 2 ∨ s2 = 14) := by simpa using hb2
    rw [if_neg h2] at k
    have R3 := R2.ex e3
    obtain ⟨dx, hd⟩ := R3.cl
    exact s_dropX (x_meth (ev_var rfl) hd rfl (ea_cons (rA_call T (ev_var rfl) (A2.ex e3)) (ea_cons (ev_var rfl) (ea_cons (ev_var rfl) ea_nil))) fun H6 e6 => ⟨_, _, _, _, rfl, L, _, (Kp423.attemptAt c j).call, s2, p, rfl, rfl, rfl, rfl, R3.ex e6, W1, hc1, fun H7 L' G7 => k H7 L' (((G1.then (e2.trans e3)).then e6).trans G7)⟩)
theorem x_endA {H : Hp} {σ : L2.St} {ta tb tc td : TE} {E : XK} {Q : VK} {L : Lay} {c : Kp423.Client} {j s p : Nat} (R : Rep K H L c) (W : Hm.Wf c) (hj : j < na c) (hr : Kp423.isRunning (Kp423.attemptAt c j) = true) (h : Ev ta σ H (.ref L.cl)) (hk : Ev tb σ H (.ref (L.a j))) (hs : Ev tc σ H (.int (s : Int))) (hp : Ev td σ H (.int (p : Int)))
    (k : ∀ H1 L', Go K H L c H1 L' (Kp423.completeAttempt c j s p) → Q .non H1) : tMeth (He.ga K "Client") "end_attempt" (spEndA K) [] E ta (tCons tb (tCons tc (tCons td tNil))) σ H Q := by
  obtain ⟨dx, hd⟩ := R.cl
  exact x_meth h hd rfl (ea_cons hk (ea_cons hs (ea_cons hp ea_nil))) fun H1 e1 => ⟨_, _, _, _, rfl, L, c, j, s, p, rfl, rfl, rfl, rfl, R.ex e1, W, hj, hr, fun H2 L' G2 => k H2 L' (Go.after e1 R G2)⟩
/-! ### a timer fires -/
def spFire (K : PySem.W.Frag) : Sp := sp2 fun x y H Q _ => ∃ (L : Lay) (c : Kp423.Client) (t : Addr) (tm : Kp423.Timer), x = .ref L.cl ∧ y = .ref t ∧ H t = some (.tup [.int (tm.time : Int), .int (tm.kind : Int), .int (tm.call : Int)]) ∧ Rep K H L c ∧ Hm.Wf (nowC c tm.time) ∧ tm.call < nc c ∧ ∀ H' L', Go K H L c H' L' (Kp423.fire (nowC c tm.time) tm) → Q .non H'
theorem sc_Client_fire : FnScope ["self", "timer", "time", "kind", "number", "call"] ["self", "timer"] (defScope s_Client_fire) := ⟨rfl, rfl, rfl, by decide +kernel, rfl, by decide +kernel, by decide +kernel⟩
theorem ok_Client_fire (T : Tx K mg) : Ok P w K mg base CX0 8 (He.ma K (He.ga K "Client") "fire") ["self", "timer"] (spFire K) := by
  obtain ⟨fd, F0⟩ := T.def_ 46 (d := d_Client_fire) rfl
  have F : FunD K "fire" "Client.fire" (defArgs s_Client_fire) (defBody s_Client_fire) (defScope s_Client_fire) [] [] (He.ma K (He.ga K "Client") "fire") fd := F0
  refine ⟨fd, F.ok sc_Client_fire sp2_len (fun cdv A outer s H vs Q E hr h => ?_), F.kp, F.bindsN fun _ _ _ _ _ _ us hl => match us, hl with | [_, _], _ => rfl⟩
  refine ⟨_, PSs.nox (pss_cons (ps_asg (pv 1) (pg_tup rfl (pgs_cons (pg_name (i := 2) sc_Client_fire.nd rfl (Or.inl rfl)) (pgs_cons (pg_name (i := 3) sc_Client_fire.nd rfl (Or.inl rfl)) (pgs_cons (pg_name (i := 4) sc_Client_fire.nd rfl (Or.inl rfl)) pgs_nil))))) (pss_cons (ps_set (i := 5) sc_Client_fire.nd rfl (Or.inl rfl) (pe_ix ix_list (pe_fld (pv 0) rfl) (pv 4) (fun _ _ => rfl))) (pss_cons (ps_fld (pv 0) (pe_callB (call_max2 rfl) rfl T.b_max (by decide +kernel) (pa_cons (pe_fld (pv 0) rfl) (pa_cons (pv 2) pa_nil))) rfl) (pss_one (ps_if (pt_cmpR op_eq (pv 3) (pe_gi T.i_KIND_DEADLINE) (nomark _)) (pss_one (ps_expr (pe_methO (pv 0) T.c_Client T.m_Client_end_call (ok_Client_end_call T) (hr.mono (by decide)) pass0 (pa_cons (pv 5) (pa_cons (pe_gi T.i_DEADLINE) pa_nil))))) (pss_one (ps_if (pt_cmpR op_eq (pv 3) (pe_gi T.i_KIND_RETRY) (nomark _)) (pss_one (ps_expr (pe_methO (pv 0) T.c_Client T.m_Client_start_attempt (ok_Client_start_attempt T) (hr.mono (by decide)) pass0 (pa_cons (pv 5) (pa_cons pe_bl pa_nil))))) (pss_one (ps_if (pt_val (pe_meth0O (pv 0) T.c_Client T.m_Client_is_allowed (ok_Client_is_allowed T) (hr.mono (by decide)) pass0)) (pss_cons (ps_fld (pv 0) (pe_op op_add (pe_fld (pv 0) rfl) pe_int) rfl) (pss_one (ps_expr (pe_methO (pv 0) T.c_Client T.m_Client_start_attempt (ok_Client_start_attempt T) (hr.mono (by decide)) pass0 (pa_cons (pv 5) (pa_cons pe_bl pa_nil)))))) (pss_one (ps_fld (pv 5) pe_non rfl))))))))))), ?_⟩
  obtain ⟨_, _, rfl, L, c, t, tm, rfl, rfl, ht, R, W, hi, k⟩ := h
  refine s_seq (x_v (ev_var rfl) fun H1 e1 => ⟨t, _, rfl, st_of (e1 _ _ ht), rfl, _, _, rfl, _, _, rfl, _, _, rfl, rfl, ?_⟩)
  dsimp only
  have R1 := R.ex e1
  refine q_asg (v := .ref (L.k tm.call)) (ev_op (rL_calls T (ev_var rfl) R1) (ev_var rfl) (rv_ixL (sq_of R1.lc) (atI_nat (by rw [List.getElem?_map, List.getElem?_range hi]; rfl)))) fun H2 e2 => ?_
  have R2 := R1.ex e2
  refine q_cl (nowC c tm.time) T R2 (v := .int ((max c.now tm.time : Nat) : Int)) (ev_is (ev_max2 (rL_now T (ev_var rfl) R2) (ev_var rfl)) (congrArg V.int (max_is _ _))) (ev_var rfl) T.n_Client_now rfl fun H3 G3 => ?_
  have G3' := Go.after (e1.trans e2) R G3
  have R3 := G3'.rep
  have hi3 : tm.call < nc (nowC c tm.time) := hi
  obtain ⟨tt, kd, ci⟩ := tm
  refine s_if (et_eqN (b := 0) (ev_var rfl) ev_c) (fun hb H4 e4 => ?_) fun hb H4 e4 => ?_
  · have h0 : kd = 0 := of_decide_eq_true hb
    subst h0
    exact s_dropX (x_end (s := 4) (R3.ex e4) W hi3 (ev_var rfl) (ev_var rfl) ev_c fun H5 G5 => k H5 L ((G3'.then e4).trans G5))
  have h0 : kd ≠ 0 := of_decide_eq_false hb
  refine s_if (et_eqN (b := 1) (ev_var rfl) ev_c) (fun hb2 H5 e5 => ?_) fun hb2 H5 e5 => ?_
  · have h1 : kd = 1 := of_decide_eq_true hb2
    subst h1
    exact s_dropX (x_start (m := true) ((R3.ex e4).ex e5) W hi3 (ev_var rfl) (ev_var rfl) ev_c fun H6 L' G6 => k H6 L' ((G3'.then (e4.trans e5)).trans G6))
  have h1 : kd ≠ 1 := of_decide_eq_false hb2
  have R5 := (R3.ex e4).ex e5
  have ef : Kp423.fire (nowC c tt) ⟨tt, kd, ci⟩ = if Kp423.budgetAllows (nowC c tt) then { Kp423.startAttempt (nowC c tt) ci true with hedgeCount := (nowC c tt).hedgeCount + 1 } else Kp423.setCall (nowC c tt) ci { Kp423.callAt (nowC c tt) ci with hedgeAt := none } := by
    unfold Kp423.fire
    match kd, h0, h1 with
    | n + 2, _, _ => rfl
  rw [ef] at k
  refine s_if (et_B (ev_mt (f := alwV) (ev_var rfl) R5 W rfl)) (fun hb3 H6 e6 => ?_) fun hb3 H6 e6 => ?_
  · rw [if_pos hb3, ← Hm.start_hedge] at k
    have R6 := R5.ex e6
    refine q_cl { nowC c tt with hedgeCount := c.hedgeCount + 1 } T R6 (ev_op (rL_hedgeCount T (ev_var rfl) R6) ev_c rv_I0) (ev_var rfl) T.n_Client_hedge_count rfl fun H7 G7 => ?_
    exact s_dropX (x_start (m := true) G7.rep (W.nums' rfl rfl rfl rfl rfl) hi3 (ev_var rfl) (ev_var rfl) ev_c fun H8 L' G8 => k H8 L' (((G3'.then (e4.trans (e5.trans e6))).trans G7).trans G8))
  · rw [if_neg (by rw [hb3]; decide)] at k
    exact s_ck { Kp423.callAt (nowC c tt) ci with hedgeAt := none } T (R5.ex e6) hi3 ev_c (ev_var rfl) T.n_Call_hedge_at rfl fun H7 G7 => k H7 L ((G3'.then (e4.trans (e5.trans e6))).trans G7)
end
end Hc
namespace Hc
open PySem PySem.Spec PyProof.Rows L2 Evl
open Hm (attsOf nowC)
section
variable {P : Program} {w : World} {K : PySem.W.Frag} {mg : Str → Option Value} {base : Heap}
/-! ### the first timer of the sorted ones -/
def f3 (t : Kp423.Timer) : I3 := ((t.time : Int), (t.kind : Int), (t.call : Int))
theorem tm_is (c : Kp423.Client) (i : Nat) : tmI i (Kp423.callAt c i) = (Kp423.timersOf c i).map f3 := by
  unfold tmI Kp423.timersOf
  dsimp only
  by_cases h : Kp423.isOpen (Kp423.callAt c i) = true
  · rw [if_pos h, if_pos h]
    cases h1 : (Kp423.callAt c i).retryAt with
    | none => cases h2 : (Kp423.callAt c i).hedgeAt with
      | none => rfl
      | some b => rfl
    | some a => cases h2 : (Kp423.callAt c i).hedgeAt with
      | none => rfl
      | some b => rfl
  · rw [if_neg h, if_neg h]
    rfl
theorem raw_is (c : Kp423.Client) : rawT c = (Hm.rawS c).map f3 := by
  unfold rawT Hm.rawS
  rw [List.map_flatMap]
  have : (fun i => tmI i (Kp423.callAt c i)) = fun i => (Kp423.timersOf c i).map f3 := funext fun i => tm_is c i
  rw [this]
theorem i3_lt (a b : I3) : i3l a < i3l b ↔ a.1 < b.1 ∨ (a.1 = b.1 ∧ (a.2.1 < b.2.1 ∨ (a.2.1 = b.2.1 ∧ a.2.2 < b.2.2))) := by
  unfold i3l
  rw [List.cons_lt_cons_iff, List.cons_lt_cons_iff, List.cons_lt_cons_iff]
  simp
theorem le3_iff (a b : I3) : le3 a b = true ↔ a.1 < b.1 ∨ (a.1 = b.1 ∧ (a.2.1 < b.2.1 ∨ (a.2.1 = b.2.1 ∧ a.2.2 ≤ b.2.2))) := by
  unfold le3
  rw [Bool.not_eq_true', decide_eq_false_iff_not, i3_lt]
  omega
theorem le3_before (a b : Kp423.Timer) (h : Kp423.before b a = false) : le3 (f3 a) (f3 b) = true := by
  rw [Hm.before_false] at h
  rw [le3_iff]
  unfold f3
  dsimp only
  omega
theorem tim_sorted (c : Kp423.Client) : (timL c).Pairwise fun a b => le3 a b = true := by
  refine List.pairwise_mergeSort (fun a b d h1 h2 => ?_) (fun a b => ?_) _
  · rw [le3_iff] at *
    omega
  · rw [Bool.or_eq_true, le3_iff, le3_iff]
    omega
theorem tim_perm (c : Kp423.Client) : (timL c).Perm ((Hm.rawS c).map f3) := by
  rw [← raw_is]
  exact List.mergeSort_perm _ _
theorem tim_nil {c : Kp423.Client} (h : timL c = []) : Kp423.nextTimer c = none := by
  have p := tim_perm c
  rw [h] at p
  have e : Hm.rawS c = [] := List.map_eq_nil_iff.mp p.symm.eq_nil
  rw [Hm.next_is, e]
  rfl
theorem tim_cons {c : Kp423.Client} {a : I3} {r : List I3} (h : timL c = a :: r) : ∃ t, Kp423.nextTimer c = some t ∧ a = f3 t := by
  have p := tim_perm c
  have s := tim_sorted c
  rw [h] at p s
  cases e : Kp423.nextTimer c with
  | none =>
    rw [Hm.next_none e] at p
    exact absurd p.length_eq (by simp)
  | some t =>
    refine ⟨t, rfl, ?_⟩
    obtain ⟨h1, h2⟩ := Hm.next_some e
    obtain ⟨y, hy, ey⟩ := List.mem_map.mp (p.mem_iff.mp (List.mem_cons_self : a ∈ a :: r))
    have l1 : le3 (f3 t) a = true := ey ▸ le3_before t y (h2 y hy)
    have l2 : le3 a (f3 t) = true := by
      have hm : f3 t ∈ a :: r := p.mem_iff.mpr (List.mem_map.mpr ⟨t, h1, rfl⟩)
      rcases List.mem_cons.mp hm with z | z
      · rw [← z, le3_iff]
        omega
      · exact (List.pairwise_cons.mp s).1 _ z
    rw [le3_iff] at l1 l2
    obtain ⟨a1, a2, a3⟩ := a
    unfold f3 at *
    dsimp only at *
    refine Prod.ext ?_ (Prod.ext ?_ ?_) <;> dsimp only <;> omega
theorem x_allT {H : Hp} {σ : L2.St} {ta : TE} {E : XK} {Q : VK} {L : Lay} {c : Kp423.Client} (R : Rep K H L c) (W : Hm.Wf c) (h : Ev ta σ H (.ref L.cl)) (k : ∀ p H' ys, H p = none → Ex H H' → H' p = some (.lst ys) → Paired (Tup3 H') ys (timL c) → Q (.ref p) H') : tMeth (He.ga K "Client") "all_timers" (spAllT K) [] E ta tNil σ H Q := by
  obtain ⟨dx, hd⟩ := R.cl
  exact x_meth (vs := []) h hd rfl ea_nil fun H1 e1 => ⟨_, rfl, L, c, rfl, R.ex e1, W, fun p H2 ys hp e2 h2 t2 => k p H2 ys (fresh_back e1 hp) (e1.trans e2) h2 t2⟩
theorem tup3_ex {H H' : Hp} (e : Ex H H') {ys : List V} {bs : List I3} (h : Paired (Tup3 H) ys bs) : Paired (Tup3 H') ys bs := Tups.ex (f := i3V) (fun s us hs => e _ _ hs) h
/-! ### all timers up to a time -/
def spFireU (K : PySem.W.Frag) : Sp := sp2 fun x y H Q _ => ∃ (L : Lay) (c : Kp423.Client) (t : Nat), x = .ref L.cl ∧ y = .int (t : Int) ∧ Rep K H L c ∧ Hm.Wf c ∧ c.now ≤ t ∧ ∀ H' L', Go K H L c H' L' (Kp423.fireUntil t 1000 c 0).1 → Q (.int ((Kp423.fireUntil t 1000 c 0).2 : Int)) H'
theorem sc_Client_fire_until : FnScope ["self", "time", "count", "waiting"] ["self", "time"] (defScope s_Client_fire_until) := ⟨rfl, rfl, rfl, by decide +kernel, rfl, by decide +kernel, by decide +kernel⟩
theorem ok_Client_fire_until (T : Tx K mg) : Ok P w K mg base CX0 9 (He.ma K (He.ga K "Client") "fire_until") ["self", "time"] (spFireU K) := by
  obtain ⟨fd, F0⟩ := T.def_ 47 (d := d_Client_fire_until) rfl
  have F : FunD K "fire_until" "Client.fire_until" (defArgs s_Client_fire_until) (defBody s_Client_fire_until) (defScope s_Client_fire_until) [] [] (He.ma K (He.ga K "Client") "fire_until") fd := F0
  refine ⟨fd, F.ok sc_Client_fire_until sp2_len (fun cdv A outer s H vs Q E hr h => ?_), F.kp, F.bindsN fun _ _ _ _ _ _ us hl => match us, hl with | [_, _], _ => rfl⟩
  refine ⟨_, PSs.nox (pss_cons (ps_set (i := 2) sc_Client_fire_until.nd rfl (Or.inl rfl) pe_int) (pss_cons (ps_set (i := 3) sc_Client_fire_until.nd rfl (Or.inl rfl) (pe_meth0O (pv 0) T.c_Client T.m_Client_all_timers (ok_Client_all_timers T) (hr.mono (by decide)) pass0)) (pss_cons (ps_while PassesOwn.never (PW.pt (pw_and (pt_cmpR (op_neE hr.units0) (pv 3) (pe_lst pa_nil) (nomark _)) (pw_and1 (pt_cmpR op_le (pe_ix ix_tup (pe_ix ix_list (pv 3) pe_int (fun _ _ => rfl)) pe_int (fun _ _ => rfl)) (pv 1) (nomark _))))) (pss_cons (ps_expr (pe_methO (pv 0) T.c_Client T.m_Client_fire (ok_Client_fire T) (hr.mono (by decide)) pass0 (pa_cons (pe_ix ix_list (pv 3) pe_int (fun _ _ => rfl)) pa_nil))) (pss_cons (ps_set (i := 2) sc_Client_fire_until.nd rfl (Or.inl rfl) (pe_op op_add (pv 2) pe_int)) (pss_one (ps_set (i := 3) sc_Client_fire_until.nd rfl (Or.inl rfl) (pe_meth0O (pv 0) T.c_Client T.m_Client_all_timers (ok_Client_all_timers T) (hr.mono (by decide)) pass0)))))) (pss_cons (ps_fld (pv 0) (pe_callB (call_max2 rfl) rfl T.b_max (by decide +kernel) (pa_cons (pe_fld (pv 0) rfl) (pa_cons (pv 1) pa_nil))) rfl) (pss_one (ps_ret (pv 2))))))), ?_⟩
  obtain ⟨_, _, rfl, L, c, t, rfl, rfl, R, W, hnow, k⟩ := h
  refine q_asg (v := .int ((0 : Nat) : Int)) ev_c fun H1 e1 => ?_
  refine q_asgX (x_allT (R.ex e1) W (ev_var rfl) fun p H2 ys hp e2 h2 t2 => ?_)
  refine q_while (fun m σ' H' => ∃ (L' : Lay) (c' : Kp423.Client) (f : Nat) (p : Addr) (ys : List V), σ' = [some (.ref L.cl), some (.int (t : Int)), some (.int (f : Int)), some (.ref p)] ∧ Go K H L c H' L' c' ∧ Hm.Wf c' ∧ c'.now ≤ t ∧ H' p = some (.lst ys) ∧ Paired (Tup3 H') ys (timL c') ∧ Kp423.fireUntil t m c' f = Kp423.fireUntil t 1000 c 0 ∧ Hm.mu c' < m) 1000
    ⟨L, c, 0, p, ys, rfl, Go.ex R (e1.trans e2), W, hnow, h2, t2, rfl, Nat.lt_of_le_of_lt W.mu (by decide)⟩ ?_
  rintro m _ H3 ⟨L', c', f, p3, ys3, rfl, G3, W3, hn3, h3, t3, hf, hmu⟩
  have R3 := G3.rep
  have hcl : L'.cl = L.cl := G3.le.cl
  have endS : (∀ tm, Kp423.nextTimer c' = some tm → ¬ tm.time ≤ t) → ∀ H4, Ex H3 H4 → tSeq (sFld K (tVar 0) (tCB rMax2 (tCons (tFld K (tVar 0) "now") (tCons (tVar 1) tNil))) "now") (tRet (tVar 2)) { nx := fun σ H => Q .non H, rt := Q, bk := fun _ _ => False, ct := fun _ _ => False } [some (.ref L.cl), some (.int (t : Int)), some (.int (f : Int)), some (.ref p3)] H4 := by
    intro hno H4 e4
    rw [← hf, Hm.fu_stop hno] at k
    have R4 := R3.ex e4
    have ev0 : Ev (tVar 0) [some (V.ref L.cl), some (V.int (t : Int)), some (V.int (f : Int)), some (V.ref p3)] H4 (.ref L'.cl) := by
      rw [hcl]
      exact ev_var rfl
    refine q_cl { c' with now := t } T R4 (v := .int (t : Int)) (ev_is (ev_max2 (rL_now T ev0 R4) (ev_var rfl)) (congrArg V.int ?_)) ev0 T.n_Client_now rfl fun H5 G5 => ?_
    · rw [max_is]
      have : max c'.now t = t := by omega
      rw [this]
    · exact s_ret (ev_var rfl) fun H6 e6 => k H6 L' (((G3.then e4).trans G5).then e6)
  cases hT : timL c' with
  | nil =>
    rw [hT] at t3
    cases t3
    refine ⟨false, et_is (et_and (b := false) (et_test (ev_empV (K := K) (neg := true) (ev_var rfl) (sq_of h3) fun _ _ => el_nil)) fun z => Bool.noConfusion z) rfl, fun z => Bool.noConfusion z, fun _ H4 e4 => endS (fun tm htm => ?_) H4 e4⟩
    rw [tim_nil hT] at htm
    cases htm
  | cons a r =>
    rw [hT] at t3
    obtain ⟨tm, hnt, rfl⟩ := tim_cons hT
    cases t3 with
    | cons ta tr =>
      obtain ⟨ad, rfl, had⟩ := ta
      have evw : ∀ {H4 : Hp}, Ex H3 H4 → Ev (tOp (rIxL K) (tVar 3) (tC (.int 0))) [some (V.ref L.cl), some (V.int (t : Int)), some (V.int (f : Int)), some (V.ref p3)] H4 (.ref ad) := fun e4 => ev_op (ev_var rfl) ev_c (rv_ixL (sq_of (e4 _ _ h3)) (atI_nat (j := 0) rfl))
      refine ⟨decide (tm.time ≤ t), et_is (et_and (et_test (ev_empV (K := K) (neg := true) (ev_var rfl) (sq_of h3) fun _ _ => el_nil)) fun _ => et_test (ev_op (ev_op (evw (Ex.refl H3)) ev_c (rv_ixT (st_of had) (atI_nat (j := 0) rfl))) (ev_var rfl) rv_I0)) ?_, fun hb H4 e4 => ?_, fun hb H4 e4 => ?_⟩
      · unfold f3
        dsimp only
        rw [le_cast]
        rfl
      · have hle : tm.time ≤ t := of_decide_eq_true hb
        cases m with
        | zero => exact absurd hmu (Nat.not_lt_zero _)
        | succ m =>
          have hin := (Hm.raw_mem (Hm.next_some hnt).1).1
          rw [Hm.fu_some hnt hle] at hf
          refine ⟨_, fun σ2 H5 z => ⟨m, Nat.lt_succ_self m, z⟩, ?_⟩
          have R4 := R3.ex e4
          obtain ⟨dx, hd⟩ := R4.cl
          have ev0 : Ev (tVar 0) [some (V.ref L.cl), some (V.int (t : Int)), some (V.int (f : Int)), some (V.ref p3)] H4 (.ref L'.cl) := by
            rw [hcl]
            exact ev_var rfl
          refine q_dropX (x_meth ev0 hd rfl (ea_cons (evw e4) ea_nil) fun H5 e5 => ⟨_, _, rfl, L', c', ad, tm, rfl, rfl, e5 _ _ (e4 _ _ had), R4.ex e5, W3.nowN hnt, hin, fun H6 L6 G6 => ?_⟩)
          have G7 := (G3.then (e4.trans e5)).trans G6
          have W7 := W3.fire hnt
          refine q_asg (v := .int ((f + 1 : Nat) : Int)) (ev_op (ev_var rfl) ev_c rv_I0) fun H8 e8 => ?_
          refine s_asgX (x_allT (G7.rep.ex e8) W7 ?_ fun p9 H9 ys9 hp9 e9 h9 t9 => ?_)
          · rw [G7.le.cl]
            exact ev_var rfl
          · refine ⟨L6, _, f + 1, p9, ys9, rfl, G7.then (e8.trans e9), W7, ?_, h9, t9, hf, ?_⟩
            · rw [Hm.fire_now]
              show max c'.now tm.time ≤ t
              omega
            · have := Hm.mu_fire W3 hnt
              omega
      · have hle : ¬ tm.time ≤ t := of_decide_eq_false hb
        exact endS (fun tm2 h2 => by rw [hnt] at h2; cases h2; exact hle) H4 e4
end
end Hc
namespace Hc
open PySem PySem.Spec PyProof.Rows L2 Evl
open Hm (attsOf nowC withC withB)
section
variable {P : Program} {w : World} {K : PySem.W.Frag} {mg : Str → Option Value} {base : Heap}
/-! ### a new call -/
def Lay.plusC (L : Lay) (c : Kp423.Client) (p q : Addr) : Lay := { L with k := fun i => if i = nc c then p else L.k i, kl := fun i => if i = nc c then q else L.kl i }
def Lay.plusB (L : Lay) (c : Kp423.Client) (p : Addr) : Lay := { L with b := fun i => if i = nb c then p else L.b i }
section
variable {H H' : Hp} {L : Lay} {c : Kp423.Client}
theorem map_new {n : Nat} {g g' : Nat → Addr} {p : Addr} (h1 : ∀ i, i < n → g' i = g i) (h2 : g' n = p) : baL (List.range (n + 1)) g' = baL (List.range n) g ++ [.ref p] := by
  unfold baL
  rw [List.range_succ, List.map_append, List.map_singleton, h2]
  congr 1
  exact List.map_congr_left fun i hi => by rw [h1 i (List.mem_range.mp hi)]
theorem go_addC {p q : Addr} {x : Kp423.RemoteCall} (R : Rep K H L c) (W : Hm.Wf c) (hp : H p = none) (hq : H q = none) (h1 : CaAt K H' p (nc c) q x) (h2 : H' q = some (.lst [])) (h3 : H' L.lc = some (.lst (baL (List.range (nc c)) L.k ++ [.ref p])))
    (f : ∀ a o, H a = some o → a ≠ L.lc → H' a = some o) : Go K H L c H' (L.plusC c p q) (withC c x) := by
  have fl : ∀ {a : Addr} {xs : List V}, H a = some (.lst xs) → a ≠ L.lc → H' a = some (.lst xs) := fun h n1 => f _ _ h n1
  have fi : ∀ {a : Addr} {x : Str} {fs : List (Str × V)}, InsAt K H a x fs → InsAt K H' a x fs := fun h => by
    have n1 := ins_lst h R.lc
    obtain ⟨d, h⟩ := h
    exact ⟨d, f _ _ h n1⟩
  have nn : ∀ {a : Addr} {xs : List V}, H a = some (.lst xs) → a ≠ q := fun h z => by rw [z, hq] at h; cases h
  have nc' : nc (withC c x) = nc c + 1 := Hm.withC_len c x
  have kold : ∀ j, j < nc c → (L.plusC c p q).k j = L.k j := fun j hj => if_neg (Nat.ne_of_lt hj)
  have klold : ∀ j, j < nc c → (L.plusC c p q).kl j = L.kl j := fun j hj => if_neg (Nat.ne_of_lt hj)
  have knew : (L.plusC c p q).k (nc c) = p := if_pos rfl
  have klnew : (L.plusC c p q).kl (nc c) = q := if_pos rfl
  refine ⟨⟨fi R.cl, fi R.po, fl R.re R.s1.2.1, fl R.lb R.s1.2.2.2.1, ?_, fl R.la R.s1.2.2.2.2.2.symm, fun i hi => fi (R.b i hi), fun i hi' => ?_, fun i hi' => ?_, fun j hj => ?_, R.s1, fun i hi' => ?_, fun i j hi' hj' n => ?_⟩, fun a o ha nt => ⟨f a o ha fun z => nt (.inr (.inr (.inr (.inr (.inl z))))), ?_⟩, rfl, Nat.le_refl _, by rw [nc']; exact Nat.le_succ _, Nat.le_refl _, fun _ _ => rfl, kold, fun _ _ => rfl⟩
  · show H' L.lc = _
    rw [nc', h3, map_new kold knew]
  · rw [nc'] at hi'
    by_cases z : i = nc c
    · subst z
      rw [knew, klnew, show Kp423.callAt (withC c x) (nc c) = x from Hm.withC_new]
      exact h1
    · have hi : i < nc c := by omega
      rw [kold i hi, klold i hi, Hm.withC_old hi]
      exact fi (R.k i hi)
  · rw [nc'] at hi'
    by_cases z : i = nc c
    · subst z
      rw [klnew, show attsOf (withC c x) (nc c) = [] from Hm.atts_none W]
      exact h2
    · have hi : i < nc c := by omega
      rw [klold i hi]
      exact fl (R.kl i hi) (R.s2 i hi).2.2.1
  · have hc : (Kp423.attemptAt c j).call < nc c := (W.at' j hj).call
    have z := fi (R.a j hj)
    show AtAt K H' (L.a j) j ((L.plusC c p q).k (Kp423.attemptAt c j).call) _ (Kp423.attemptAt c j)
    rw [kold _ hc]
    exact z
  · rw [nc'] at hi'
    by_cases z : i = nc c
    · subst z
      rw [klnew]
      exact ⟨(nn R.re).symm, (nn R.lb).symm, (nn R.lc).symm, (nn R.la).symm⟩
    · have hi : i < nc c := by omega
      rw [klold i hi]
      exact R.s2 i hi
  · rw [nc'] at hi' hj'
    by_cases z : i = nc c
    · subst z
      have hj : j < nc c := by omega
      rw [klnew, klold j hj]
      exact (nn (R.kl j hj)).symm
    · have hi : i < nc c := by omega
      rw [klold i hi]
      by_cases y : j = nc c
      · subst y
        rw [klnew]
        exact nn (R.kl i hi)
      · have hj : j < nc c := by omega
        rw [klold j hj]
        exact R.s3 i j hi hj n
  · rintro (z | z | z | z | z | z | ⟨i, hi, z⟩ | ⟨i, hi, z⟩ | ⟨j, hj, z⟩)
    · exact nt (.inl z)
    · exact nt (.inr (.inl z))
    · exact nt (.inr (.inr (.inl z)))
    · exact nt (.inr (.inr (.inr (.inl z))))
    · exact nt (.inr (.inr (.inr (.inr (.inl z)))))
    · exact nt (.inr (.inr (.inr (.inr (.inr (.inl z))))))
    · exact nt (.inr (.inr (.inr (.inr (.inr (.inr (.inl ⟨i, hi, z⟩)))))))
    · rw [nc'] at hi
      by_cases y : i = nc c
      · subst y
        rw [knew, klnew] at z
        rcases z with z | z
        · rw [z, hp] at ha
          cases ha
        · rw [z, hq] at ha
          cases ha
      · have hi2 : i < nc c := by omega
        rw [kold i hi2, klold i hi2] at z
        exact nt (.inr (.inr (.inr (.inr (.inr (.inr (.inr (.inl ⟨i, hi2, z⟩))))))))
    · exact nt (.inr (.inr (.inr (.inr (.inr (.inr (.inr (.inr ⟨j, hj, z⟩))))))))
theorem go_addB {p : Addr} {wt : Nat} (R : Rep K H L c) (W : Hm.Wf c) (hp : H p = none) (h1 : BaAt K H' p (nb c) (newB wt)) (h3 : H' L.lb = some (.lst (baL (List.range (nb c)) L.b ++ [.ref p])))
    (f : ∀ a o, H a = some o → a ≠ L.lb → H' a = some o) : Go K H L c H' (L.plusB c p) (withB c wt) := by
  have fl : ∀ {a : Addr} {xs : List V}, H a = some (.lst xs) → a ≠ L.lb → H' a = some (.lst xs) := fun h n1 => f _ _ h n1
  have fi : ∀ {a : Addr} {x : Str} {fs : List (Str × V)}, InsAt K H a x fs → InsAt K H' a x fs := fun h => by
    have n1 := ins_lst h R.lb
    obtain ⟨d, h⟩ := h
    exact ⟨d, f _ _ h n1⟩
  have nb' : nb (withB c wt) = nb c + 1 := Hm.withB_len c wt
  have bold : ∀ j, j < nb c → (L.plusB c p).b j = L.b j := fun j hj => if_neg (Nat.ne_of_lt hj)
  have bnew : (L.plusB c p).b (nb c) = p := if_pos rfl
  refine ⟨⟨fi R.cl, fi R.po, fl R.re R.s1.1, ?_, fl R.lc R.s1.2.2.2.1.symm, fl R.la R.s1.2.2.2.2.1.symm, fun i hi' => ?_, fun i hi => fi (R.k i hi), fun i hi => fl (R.kl i hi) (R.s2 i hi).2.1, fun j hj => ?_, R.s1, R.s2, R.s3⟩, fun a o ha nt => ⟨f a o ha fun z => nt (.inr (.inr (.inr (.inl z)))), ?_⟩, rfl, by rw [nb']; exact Nat.le_succ _, Nat.le_refl _, Nat.le_refl _, bold, fun _ _ => rfl, fun _ _ => rfl⟩
  · show H' L.lb = _
    rw [nb', h3, map_new bold bnew]
  · rw [nb'] at hi'
    by_cases z : i = nb c
    · subst z
      rw [bnew, show Kp423.backendAt (withB c wt) (nb c) = newB wt from Hm.withB_new]
      exact h1
    · have hi : i < nb c := by omega
      rw [bold i hi, Hm.withB_old hi]
      exact fi (R.b i hi)
  · have hc : (Kp423.attemptAt c j).backend < nb c := (W.at' j hj).backend
    have z := fi (R.a j hj)
    show AtAt K H' (L.a j) j _ ((L.plusB c p).b (Kp423.attemptAt c j).backend) (Kp423.attemptAt c j)
    rw [bold _ hc]
    exact z
  · rintro (z | z | z | z | z | z | ⟨i, hi, z⟩ | ⟨i, hi, z⟩ | ⟨j, hj, z⟩)
    · exact nt (.inl z)
    · exact nt (.inr (.inl z))
    · exact nt (.inr (.inr (.inl z)))
    · exact nt (.inr (.inr (.inr (.inl z))))
    · exact nt (.inr (.inr (.inr (.inr (.inl z)))))
    · exact nt (.inr (.inr (.inr (.inr (.inr (.inl z))))))
    · rw [nb'] at hi
      by_cases y : i = nb c
      · subst y
        rw [bnew] at z
        rw [z, hp] at ha
        cases ha
      · have hi2 : i < nb c := by omega
        rw [bold i hi2] at z
        exact nt (.inr (.inr (.inr (.inr (.inr (.inr (.inl ⟨i, hi2, z⟩)))))))
    · exact nt (.inr (.inr (.inr (.inr (.inr (.inr (.inr (.inl ⟨i, hi, z⟩))))))))
    · exact nt (.inr (.inr (.inr (.inr (.inr (.inr (.inr (.inr ⟨j, hj, z⟩))))))))
end
def spOpen (K : PySem.W.Frag) : Sp := sp4 fun x y z u H Q _ => ∃ (L : Lay) (c : Kp423.Client) (t key : Nat) (idem : Bool), x = .ref L.cl ∧ y = .int (t : Int) ∧ z = .bl idem ∧ u = .int (key : Int) ∧ Rep K H L c ∧ Hm.Wf c ∧ nc c < 60 ∧
  ∀ H' L', Go K H L c H' L' (Kp423.startAttempt (withC c (Hm.newC (c.now + t) idem key)) (nc c) true) → Q (.ref (L'.k (nc c))) H'
theorem sc_Client_open_call : FnScope ["self", "timeout", "is_idempotent", "key", "call"] ["self", "timeout", "is_idempotent", "key"] (defScope s_Client_open_call) := ⟨rfl, rfl, rfl, by decide +kernel, rfl, by decide +kernel, by decide +kernel⟩
theorem ok_Client_open_call (T : Tx K mg) : Ok P w K mg base CX0 8 (He.ma K (He.ga K "Client") "open_call") ["self", "timeout", "is_idempotent", "key"] (spOpen K) := by
  obtain ⟨fd, F0⟩ := T.def_ 48 (d := d_Client_open_call) rfl
  have F : FunD K "open_call" "Client.open_call" (defArgs s_Client_open_call) (defBody s_Client_open_call) (defScope s_Client_open_call) [] [] (He.ma K (He.ga K "Client") "open_call") fd := F0
  refine ⟨fd, F.ok sc_Client_open_call sp4_len (fun cdv A outer s H vs Q E hr h => ?_), F.kp, F.bindsN fun _ _ _ _ _ _ us hl => match us, hl with | [_, _, _, _], _ => rfl⟩
  refine ⟨_, PSs.nox (pss_cons (ps_set (i := 4) sc_Client_open_call.nd rfl (Or.inl rfl) (pe_makeO T.mk_Call (ok_Call_init T) (hr.mono (by decide)) rfl T.g_Call pass0 (pa_cons (pe_callB call_len_seq rfl T.b_len (by decide +kernel) (pa_cons (pe_fld (pv 0) rfl) pa_nil)) (pa_cons (pe_op op_add (pe_fld (pv 0) rfl) (pv 1)) (pa_cons (pv 2) (pa_cons (pv 3) pa_nil)))))) (pss_cons (ps_expr (pe_bm PySem.F.plainAttrs_list PySem.F.slot_list_append PySem.F.type_list_append mt_append (pe_fld (pv 0) rfl) (pa_cons (pv 4) pa_nil))) (pss_cons (ps_expr (pe_methO (pv 0) T.c_Client T.m_Client_start_attempt (ok_Client_start_attempt T) (hr.mono (by decide)) pass0 (pa_cons (pv 4) (pa_cons pe_bl pa_nil)))) (pss_one (ps_ret (pv 4)))))), ?_⟩
  obtain ⟨_, _, _, _, rfl, L, c, t, key, idem, rfl, rfl, rfl, rfl, R, W, hn, k⟩ := h
  have n1 := ev_lenL (K := K) (rL_calls (L := L) T (ev_var (σ := [some (V.ref L.cl), some (V.int (t : Int)), some (V.bl idem), some (V.int (key : Int)), none]) (i := 0) rfl) R) (sq_of R.lc)
  rw [List.length_map, List.length_range] at n1
  refine q_asgX (x_make (vs := [.int (nc c : Int), .int ((c.now + t : Nat) : Int), .bl idem, .int (key : Int)]) (ea_cons n1 (ea_cons (ev_op (rL_now T (ev_var rfl) R) (ev_var rfl) rv_I0) (ea_cons (ev_var rfl) (ea_cons (ev_var rfl) ea_nil)))) fun H1 p dp e1 hp1 hd1 nd1 =>
    ⟨_, _, _, _, _, rfl, p, dp, nc c, c.now + t, key, idem, rfl, rfl, rfl, rfl, rfl, upd_same, fun H2 q hq h2 h3 f2 => ⟨rfl, ?_⟩⟩)
  have e2 : Ex H1 H2 := Ex.made hp1 hd1 f2
  have R1 := R.ex e1
  have R2 := R1.ex e2
  have hq1 : H1 q = none := by
    cases z : H1 q with
    | none => rfl
    | some o =>
      have n1 : q ≠ p := fun y => by rw [y, hp1] at z; cases z
      have n2 : q ≠ dp := fun y => by rw [y, hd1] at z; cases z
      rw [upd_ne n1, upd_ne n2, z] at hq
      cases hq
  refine q_app R2.lc (rL_calls T (ev_var rfl) R2) (ev_var rfl) (by rw [List.length_map, List.length_range]; omega) fun H3 e3 => ?_
  have npl : p ≠ L.lc := ins_lst h2 R2.lc
  have nql : q ≠ L.lc := fun z => by rw [z, R1.lc] at hq1; cases hq1
  have G3 : Go K H1 L c (upd H3 L.lc (.lst (baL (List.range (nc c)) L.k ++ [.ref p]))) (L.plusC c p q) (withC c (Hm.newC (c.now + t) idem key)) := by
    refine go_addC R1 W hp1 hq1 ?_ ?_ upd_same fun a o ha na => ?_
    · obtain ⟨d, y⟩ := h2
      exact ⟨d, by rw [upd_ne npl]; exact e3 _ _ y⟩
    · rw [upd_ne nql]
      exact e3 _ _ h3
    · rw [upd_ne na]
      exact e3 _ _ (e2 _ _ ha)
  have G4 := Go.after e1 R G3
  have W4 := W.addC hn (d := c.now + t) (k := key) (b := idem) (Nat.le_add_right _ _)
  have hi4 : nc c < nc (withC c (Hm.newC (c.now + t) idem key)) := by rw [show nc _ = _ from Hm.withC_len c _]; exact Nat.lt_succ_self _
  have ek : (L.plusC c p q).k (nc c) = p := if_pos rfl
  refine q_dropX (x_start (L := L.plusC c p q) (m := true) G4.rep W4 hi4 (ev_var rfl) ?_ ev_c fun H5 L' G5 => s_ret (ev_var rfl) fun H6 e6 => ?_)
  · rw [ek]
    exact ev_var rfl
  · have z := k H6 L' ((G4.trans G5).then e6)
    rw [G5.le.k _ hi4, ek] at z
    exact z
/-! ### the client at its beginning -/
def spClInit (K : PySem.W.Frag) : Sp := sp4 fun x y z u H Q _ => ∃ (p dx po re : Addr) (s : Nat) (pol : Kp423.Policy), x = .ref p ∧ y = .int (s : Int) ∧ z = .int (pol.balancer : Int) ∧ u = .ref po ∧ H p = some (.ins (He.ga K "Client") dx []) ∧ PoAt K H po re pol ∧ H re = some (.lst (natL pol.retryable)) ∧ po ≠ p ∧
  ∀ H' L, L.cl = p → L.po = po → L.re = re → H L.lb = none → H L.lc = none → H L.la = none → Rep K H' L (Hm.client0 pol s) → (∀ b o, H b = some o → b ≠ p → H' b = some o) → Q .non H'
theorem sc_Client_init : FnScope ["self", "seed", "balancer", "policy"] ["self", "seed", "balancer", "policy"] (defScope s_Client_init) := ⟨rfl, rfl, rfl, by decide +kernel, rfl, by decide +kernel, by decide +kernel⟩
theorem ok_Client_init (T : Tx K mg) : Ok P w K mg base CX0 2 (He.ma K (He.ga K "Client") "__init__") ["self", "seed", "balancer", "policy"] (spClInit K) := by
  obtain ⟨fd, F0⟩ := T.def_ 27 (d := d_Client_init) rfl
  have F : FunD K "__init__" "Client.__init__" (defArgs s_Client_init) (defBody s_Client_init) (defScope s_Client_init) [] [] (He.ma K (He.ga K "Client") "__init__") fd := F0
  refine ⟨fd, F.ok sc_Client_init sp4_len (fun cdv A outer s H vs Q E hr h => ?_), F.kp, F.bindsN fun _ _ _ _ _ _ us hl => match us, hl with | [_, _, _, _], _ => rfl⟩
  refine ⟨_, PSs.nox (pss_cons (ps_fld (pv 0) (pv 1) rfl) (pss_cons (ps_fld (pv 0) (pv 2) rfl) (pss_cons (ps_fld (pv 0) (pv 3) rfl) (pss_cons (ps_fld (pv 0) pe_int rfl) (pss_cons (ps_fld (pv 0) (pe_meth0O (pv 3) T.c_Policy T.m_Policy_most_tokens (ok_Policy_most_tokens T) (hr.mono (by decide)) pass0) rfl) (pss_cons (ps_fld (pv 0) pe_int rfl) (pss_cons (ps_fld (pv 0) (pe_lst pa_nil) rfl) (pss_cons (ps_fld (pv 0) (pe_lst pa_nil) rfl) (pss_cons (ps_fld (pv 0) (pe_lst pa_nil) rfl) (pss_cons (ps_fld (pv 0) pe_int rfl) (pss_cons (ps_fld (pv 0) pe_int rfl) (pss_one (ps_fld (pv 0) pe_int rfl))))))))))))), ?_⟩
  obtain ⟨_, _, _, _, rfl, p, dx, po, re, s2, pol, rfl, rfl, rfl, rfl, hp, hpo, hre, hne, k⟩ := h
  refine q_new (MkTo.start hp) (ev_var rfl) (ev_var rfl) T.c_Client T.n_Client_seed (by show 0 < 1000; decide) fun H1 m1 => ?_
  refine q_new m1 (ev_var rfl) (ev_var rfl) T.c_Client T.n_Client_balancer (by show 1 < 1000; decide) fun H2 m2 => ?_
  refine q_new m2 (ev_var rfl) (ev_var rfl) T.c_Client T.n_Client_policy (by show 2 < 1000; decide) fun H3 m3 => ?_
  refine q_new m3 ev_c (ev_var rfl) T.c_Client T.n_Client_now (by show 3 < 1000; decide) fun H4 m4 => ?_
  have hpo4 : PoAt K H4 po re pol := by
    obtain ⟨d, y⟩ := hpo
    exact ⟨d, m4.old _ _ y hne⟩
  refine q_new m4 (ev_most (ev_var rfl) hpo4) (ev_var rfl) T.c_Client T.n_Client_tokens (by show 4 < 1000; decide) fun H5 m5 => ?_
  refine q_new m5 ev_c (ev_var rfl) T.c_Client T.n_Client_pointer (by show 5 < 1000; decide) fun H6 m6 => ?_
  refine q_newL m6 el_nil (ev_var rfl) T.c_Client T.n_Client_backends (by show 6 < 1000; decide) fun lb H7 hlb h7 m7 => ?_
  refine q_newL (MkTo.start m7.at_) el_nil (ev_var rfl) T.c_Client T.n_Client_calls (by show 7 < 1000; decide) fun lc H8 hlc h8 m8 => ?_
  refine q_newL (MkTo.start m8.at_) el_nil (ev_var rfl) T.c_Client T.n_Client_attempts (by show 8 < 1000; decide) fun la H9 hla h9 m9 => ?_
  refine q_new (MkTo.start m9.at_) ev_c (ev_var rfl) T.c_Client T.n_Client_retry_count (by show 9 < 1000; decide) fun H10 m10 => ?_
  refine q_new m10 ev_c (ev_var rfl) T.c_Client T.n_Client_hedge_count (by show 10 < 1000; decide) fun H11 m11 => ?_
  refine s_new m11 ev_c (ev_var rfl) T.c_Client T.n_Client_transparent_count (by show 11 < 1000; decide) fun H12 m12 => ?_
  have o7 : ∀ b o, H b = some o → b ≠ p → H7 b = some o := m7.old
  have o8 : ∀ b o, H b = some o → b ≠ p → H8 b = some o := fun b o q n => m8.old b o (o7 b o q n) n
  have o9 : ∀ b o, H b = some o → b ≠ p → H9 b = some o := fun b o q n => m9.old b o (o8 b o q n) n
  have o12 : ∀ b o, H b = some o → b ≠ p → H12 b = some o := fun b o q n => m12.old b o (o9 b o q n) n
  have fr : ∀ {Hx : Hp} {q : Addr}, (∀ b o, H b = some o → b ≠ p → Hx b = some o) → Hx q = none → q ≠ p → H q = none := fun f h n => by
    rename_i Hx q
    cases z : H q with
    | none => rfl
    | some o =>
      rw [f q o z n] at h
      cases h
  have nlb : lb ≠ p := fun z => by rw [z, m6.at_] at hlb; cases hlb
  have nlc : lc ≠ p := fun z => by rw [z, m7.at_] at hlc; cases hlc
  have nla : la ≠ p := fun z => by rw [z, m8.at_] at hla; cases hla
  have hlb0 : H lb = none := fr m6.old hlb nlb
  have hlc0 : H lc = none := fr o7 hlc nlc
  have hla0 : H la = none := fr o8 hla nla
  have nre : re ≠ p := fun z => by rw [z, hp] at hre; cases hre
  have r1 : re ≠ lb := fun z => by rw [z, hlb0] at hre; cases hre
  have r2 : re ≠ lc := fun z => by rw [z, hlc0] at hre; cases hre
  have r3 : re ≠ la := fun z => by rw [z, hla0] at hre; cases hre
  have b7 : H7 lb = some (.lst []) := h7
  have b8 : H8 lb = some (.lst []) := m8.old _ _ b7 nlb
  have b9 : H9 lb = some (.lst []) := m9.old _ _ b8 nlb
  have c9 : H9 lc = some (.lst []) := m9.old _ _ h8 nlc
  have nbc : lb ≠ lc := fun z => by rw [← z, b7] at hlc; cases hlc
  have nba : lb ≠ la := fun z => by rw [← z, b8] at hla; cases hla
  have nca : lc ≠ la := fun z => by rw [← z, h8] at hla; cases hla
  refine k H12 ⟨p, po, re, lb, lc, la, fun _ => 0, fun _ => 0, fun _ => 0, fun _ => 0⟩ rfl rfl rfl hlb0 hlc0 hla0 ⟨⟨dx, m12.at_⟩, ?_, o12 _ _ hre nre, m12.old _ _ b9 nlb, m12.old _ _ c9 nlc, m12.old _ _ h9 nla, fun i hi => absurd hi (Nat.not_lt_zero i), fun i hi => absurd hi (Nat.not_lt_zero i), fun i hi => absurd hi (Nat.not_lt_zero i), fun i hi => absurd hi (Nat.not_lt_zero i), ⟨r1, r2, r3, nbc, nba, nca⟩, fun i hi => absurd hi (Nat.not_lt_zero i), fun i _ hi => absurd hi (Nat.not_lt_zero i)⟩ o12
  obtain ⟨d, y⟩ := hpo
  exact ⟨d, o12 _ _ y hne⟩
end
end Hc
namespace Hc
open PySem PySem.Spec PyProof.Rows L2 Evl
open Hm (attsOf nowC withC withB)
/-! ### the error's class -/
section
variable {P : Program} {w : World} {K : PySem.W.Frag} {mg : Str → Option Value} {base : Heap}
theorem Tx.ref (T : Tx K mg) : refB K = true := (He.ba (He.ba (He.ba (He.ba (He.ba T.parts.2.2).2).2).2).2).2
theorem Tx.oex (T : Tx K mg) : OexC K (He.ga K "Refused") := by
  have h := T.ref
  unfold refB at h
  obtain ⟨h1, h⟩ := He.ba h
  obtain ⟨h2, h⟩ := He.ba h
  obtain ⟨h3, h⟩ := He.ba h
  obtain ⟨h4, h⟩ := He.ba h
  obtain ⟨h5, h⟩ := He.ba h
  refine ⟨?_, He.eqO_ok h2, of_decide_eq_true h3, of_decide_eq_true h4, h5⟩
  unfold oexB at h1
  cases q : K.lookup (He.ga K "Refused") with
  | none => rw [q] at h1; cases h1
  | some o =>
    obtain ⟨oc, od, dt, osl⟩ := o
    rw [q] at h1
    cases oc with
    | type t =>
      cases dt with
      | cls cd =>
        obtain ⟨a1, a2⟩ := He.ba h1
        obtain ⟨nm, bs, mro, ns, qn, hd, sn, sb, ab, col, dl⟩ := cd
        obtain ⟨osl⟩ := osl
        dsimp only at a2
        match mro, osl, a2 with
        | .ref D :: bm, [k0, k1, k2, k3, some (.builtin n), k5], a2 =>
          obtain ⟨b1, b2⟩ := He.ba a2
          obtain ⟨b2, b3⟩ := He.ba b2
          obtain ⟨b3, b4⟩ := He.ba b3
          obtain ⟨b4, b5⟩ := He.ba b4
          have e1 := of_decide_eq_true a1
          have e2 := of_decide_eq_true b1
          have e3 := of_decide_eq_true b2
          subst e1 e2 e3
          have e4 : dl = false := by simpa using b3
          have e5 : hd = true := b4
          subst e4 e5
          exact ⟨nm, qn, ns, bs, bm, sn, sb, ab, col, od, k0, k1, k2, k3, k5, rfl, b5⟩
      | _ => cases h1
    | _ => cases dt <;> cases h1
theorem Tx.rest (T : Tx K mg) : PySem.W.findIn K (.ref (He.ga K "Refused")) "__init__" = some (some (.ref (He.ma K (He.ga K "Refused") "__init__"))) ∧ PySem.W.typeIn K (.ref (He.ma K (He.ga K "Refused") "__init__")) = some (.type "function") ∧ PySem.W.findIn K (.ref (He.ga K "Refused")) "code" = some none ∧ XfC K (He.ga K "Refused") ∧
    PySem.W.findCls K (.type "ValueError") (.type "type") "__init__" = some (.val (.builtin "ValueError.__init__")) := by
  have h := T.ref
  unfold refB at h
  obtain ⟨_, h⟩ := He.ba h
  obtain ⟨_, h⟩ := He.ba h
  obtain ⟨_, h⟩ := He.ba h
  obtain ⟨_, h⟩ := He.ba h
  obtain ⟨_, h⟩ := He.ba h
  obtain ⟨h6, h⟩ := He.ba h
  obtain ⟨h7, h⟩ := He.ba h
  obtain ⟨h8, h⟩ := He.ba h
  obtain ⟨h9, h10⟩ := He.ba h
  refine ⟨He.eqO_ok h6, of_decide_eq_true h7, He.eqO_ok h8, xfB_ok h9, ?_⟩
  unfold vinB at h10
  split at h10
  · rename_i n e
    rw [e, of_decide_eq_true h10]
  · cases h10
theorem Tx.vin (T : Tx K mg) : PySem.W.findCls K (.type "ValueError") (.type "type") "__init__" = some (.val (.builtin "ValueError.__init__")) := T.rest.2.2.2.2
/-! ### the dicts of the defs -/
def DicAt (K : PySem.W.Frag) (d : Addr) (l : List (Int × Str)) : Prop := ∃ es n, K.lookup d = some ⟨.type "dict", none, .dict es n, #[]⟩ ∧ (d == sysModules) = false ∧ entsB K es.toList l = true
theorem dic_at {x : Str} {l : List (Int × Str)} (h : dicB K x l = true) : DicAt K (He.ga K x) l := by
  unfold dicB at h
  cases q : K.lookup (He.ga K x) with
  | none => rw [q] at h; cases h
  | some o =>
    obtain ⟨oc, od, dt, osl⟩ := o
    rw [q] at h
    cases oc with
    | type c =>
      cases od with
      | none =>
        cases dt with
        | dict es n =>
          obtain ⟨h1, h2⟩ := He.ba h
          obtain ⟨h3, h4⟩ := He.ba h2
          obtain ⟨h5, h6⟩ := He.ba h4
          have e1 := of_decide_eq_true h1
          subst e1
          obtain ⟨osl⟩ := osl
          have e2 : osl = [] := by simpa using h3
          subst e2
          exact ⟨es, n, q, by simpa using h5, h6⟩
        | _ => cases h
      | some z => cases dt <;> cases h
    | _ => cases od <;> cases dt <;> cases h
theorem Tx.d_WITH_NONE (T : Tx K mg) : DicAt K (He.ga K "WITH_NONE") dl_WITH_NONE := dic_at (He.ba (He.ba T.parts.2.2).2).1
theorem Tx.d_WITH_ONE (T : Tx K mg) : DicAt K (He.ga K "WITH_ONE") dl_WITH_ONE := dic_at (He.ba (He.ba (He.ba T.parts.2.2).2).2).1
theorem Tx.d_WITH_TWO (T : Tx K mg) : DicAt K (He.ga K "WITH_TWO") dl_WITH_TWO := dic_at (He.ba (He.ba (He.ba (He.ba T.parts.2.2).2).2).2).1
theorem Tx.d_WITH_THREE (T : Tx K mg) : DicAt K (He.ga K "WITH_THREE") dl_WITH_THREE := dic_at (He.ba (He.ba (He.ba (He.ba (He.ba T.parts.2.2).2).2).2).2).1
theorem ents_find : ∀ {es : List DictEntry} {l : List (Int × Str)}, entsB K es l = true → ∀ z : Int, (es.find? fun e => Value.isInt z e.key).map (·.val) = (l.lookup z).map fun f => Value.ref (He.ga K f)
  | [], [], _, _ => rfl
  | [], _ :: _, h, _ => by cases h
  | e :: r, [], h, _ => by cases h
  | e :: r, (k, f) :: s, h, z => by
    obtain ⟨h1, h2⟩ := He.ba (show ((match e.key, e.val with
      | .int i _, .ref a => decide (i = k) && (decide (e.hash = hashInt k) && decide (a = He.ga K f))
      | _, _ => false) && entsB K r s) = true from h)
    have ih := ents_find h2 z
    split at h1
    · rename_i i t a e1 e2
      obtain ⟨g1, g2⟩ := He.ba h1
      obtain ⟨g2, g3⟩ := He.ba g2
      have y1 := of_decide_eq_true g1
      have y3 := of_decide_eq_true g3
      subst y1 y3
      rw [List.find?_cons, e1]
      by_cases y : z = i
      · subst y
        have : Value.isInt z (Value.int z t) = true := by simp [Value.isInt]
        rw [this]
        simp [e2]
      · have : Value.isInt z (Value.int i t) = false := by
          unfold Value.isInt
          simp
          exact fun q => y q.symm
        rw [this]
        have y2 : (z == i) = false := by simpa using y
        simp only [List.lookup, y2]
        exact ih
    · cases h1
theorem ents_keys : ∀ {es : List DictEntry} {l : List (Int × Str)}, entsB K es l = true → ∀ e ∈ es, ∃ k t, e.key = Value.int k t ∧ e.hash = hashInt k
  | [], _, _, e, he => by cases he
  | e :: r, [], h, _, _ => by cases h
  | e :: r, (k, f) :: s, h, x, hx => by
    obtain ⟨h1, h2⟩ := He.ba (show ((match e.key, e.val with
      | .int i _, .ref a => decide (i = k) && (decide (e.hash = hashInt k) && decide (a = He.ga K f))
      | _, _ => false) && entsB K r s) = true from h)
    rcases List.mem_cons.mp hx with y | y
    · subst y
      split at h1
      · rename_i i t a e1 e2
        obtain ⟨g1, g2⟩ := He.ba h1
        obtain ⟨g2, g3⟩ := He.ba g2
        have y1 := of_decide_eq_true g1
        subst y1
        exact ⟨i, t, e1, of_decide_eq_true g2⟩
      · cases h1
    · exact ents_keys h2 x y
theorem dic_map {prog : Program} {h : Heap} {d : Addr} {l : List (Int × Str)} (X : K.In h) (D : DicAt K d l) : (d == sysModules) = false ∧ h.MapOf (PySem.intKind prog w) d fun z => (l.lookup z).map fun f => Value.ref (He.ga K f) := by
  obtain ⟨es, n, hl, hs, he⟩ := D
  refine ⟨hs, _, es, n, X _ _ hl, ⟨rfl, rfl, rfl⟩, rfl, fun e hm => ?_, fun z => ?_⟩
  · obtain ⟨k, t, e1, e2⟩ := ents_keys he e (Array.mem_toList_iff.mpr hm)
    exact ⟨k, by rw [e1]; show Value.isInt k (Value.int k t) = true; simp [Value.isInt], e2⟩
  · obtain ⟨es⟩ := es
    have z2 := ents_find he z
    unfold findBy
    rw [List.find?_toArray]
    exact z2
def rInW (K : PySem.W.Frag) : R2 := fun x y H Q => ∃ (z : Int) (d : Addr) (l : List (Int × Str)), x = .int z ∧ y = .ref d ∧ DicAt K d l ∧ Q (.bl (l.lookup z).isSome) H
def rIxW (K : PySem.W.Frag) : R2 := fun x y H Q => ∃ (z : Int) (d : Addr) (l : List (Int × Str)) (f : Str), x = .ref d ∧ y = .int z ∧ DicAt K d l ∧ l.lookup z = some f ∧ Q (.ref (He.ga K f)) H
section
variable {X : Cx}
theorem op_inW : OpR X (compareOp .In) (rInW X.K) := by
  intro pins s σ H x y v u Q I rx ry h
  obtain ⟨z, d, l, rfl, rfl, D, q⟩ := h
  obtain ⟨t, rfl⟩ := rx
  cases ry
  obtain ⟨hs, hm⟩ := dic_map (prog := X.prog) (w := X.w) I.kIn D
  refine wpAny_in_of (k := z) (by show Value.isInt z (Value.int z t) = true; simp [Value.isInt]) hs hm ?_
  have e : ((l.lookup z).map fun f => Value.ref (He.ga X.K f)).isSome = (l.lookup z).isSome := by cases l.lookup z <;> rfl
  rw [e]
  exact ⟨.bl (l.lookup z).isSome, H, I.tok _, rfl, q⟩
theorem ix_dicW : IxR X (rIxW X.K) := by
  intro value slice pins s σ H x y v u Q I rx ry h hs
  obtain ⟨z, d, l, f, rfl, rfl, D, hf, q⟩ := h
  obtain rfl : v = Value.ref d := rx
  obtain ⟨t, rfl⟩ := ry
  obtain ⟨_, hm⟩ := dic_map (prog := X.prog) (w := X.w) I.kIn D
  exact tail_any hm.typeIs slot_dict_getitem.lookup (wpAny_getItem_of (k := z) (by show Value.isInt z (Value.int z t) = true; simp [Value.isInt]) hm (by rw [hf]; rfl) ⟨.ref (He.ga X.K f), H, I.tok _, rfl, q⟩) hs
/-! ### a def held by a name -/
def tCallC (i : Nat) (S : Addr → Sp → Prop) (E : XK) (t : TA) : TE := fun σ H Q => ∃ f sp, σ[i]? = some (some (.ref f)) ∧ S f sp ∧ t σ H fun vs H1 => sp (vs ++ []) H1 Q E
theorem pe_callC {CX : CXT} {k i : Nat} {S : Addr → Sp → Prop} {E : XK} {x : Str} {p pos : Pos} {e : Expr} {es : List Expr} {t : TA} (A : ∀ f sp, S f sp → ∃ ps, Ok X.prog X.w X.K X.mg X.base CX k f ps sp) (hr : Room k X.A) (hN : X.N[i]? = some x) (hv : Vis X.env.scope x) (hx : Passes CX X E) (ha : PA X (e :: es) t)
    (hdb : (x == ("__debug__" : Str)) = false := by decide) (hcd : (x == ("__classdict__" : Str)) = false := by decide)
    (he : starEach (e :: es) X.env = (false, eval e X.env) :: starEach es X.env := by rfl) (hpl : (backTo pos (starEach es X.env)).any (·.1) = false := by rfl) : PE X (.Call (.Name x p) (e :: es) [] pos) (tCallC i S E t) := by
  refine ⟨fun pins s σ H Q I h => ?_⟩
  obtain ⟨f, sp, hs, hS, ht⟩ := h
  obtain ⟨ps, O⟩ := A f sp hS
  obtain ⟨fd, F, kp, b⟩ := O.ex
  exact (pe_callL (i := i) F hr hN hv kp b .nil hx ha hdb hcd he hpl).run pins s σ H Q I ⟨hs, ht⟩
/-! ### a method's call in a try's body -/
def tMethX (C : Addr) (m : Str) (sp : Sp) (E : L2.St → XK) (ta : TE) (t : TA) : TE := fun σ H Q => ta σ H fun x H1 => ∃ a dx fs, x = .ref a ∧ H1 a = some (.ins C dx fs) ∧ fs.lookup m = none ∧ t σ H1 fun vs H2 => sp (x :: vs) H2 Q (E σ)
theorem pe_methX {CX : CXT} {k : Nat} {C f : Addr} {m : Str} {ps : List Str} {sp : Sp} {E : L2.St → XK} {o e : Expr} {es : List Expr} {ta : TE} {t : TA} {apos pos : Pos} {pl : Sem Bool} (he : PE X o ta) (c : Cls X.K C) (hm : Meth X.K C m f) (O : Ok X.prog X.w X.K X.mg X.base CX k f ps sp) (hr : Room k X.A) (hx : ∀ σ, PassesAt CX X σ (E σ)) (ha : PA X (e :: es) t)
    (hst : starEach (e :: es) X.env = (false, eval e X.env) :: starEach es X.env := by rfl) (hpl : (backTo pos (starEach es X.env)).any (·.1) = false := by rfl)
    (ht : eval (.Call (.Attribute o m apos) (e :: es) [] pos) X.env = (do
      let ov ← eval o X.env
      standAt apos.atName
      let (f, first) ← holding [ov] (getMethod ov m pl)
      callWith pos f first (backTo pos (starEach (e :: es) X.env)) (backToKw pos (keywordEach [] X.env))) := by rfl) :
    PE X (.Call (.Attribute o m apos) (e :: es) [] pos) (tMethX C m sp E ta t) := by
  obtain ⟨fd, F, kp, b⟩ := O.ex
  refine ⟨fun pins s σ H Q I h => ?_⟩
  refine PySem.W.methodCall_KW (pl := pl) (thn (he.run pins s σ H _ I h) fun u s1 ⟨x, H1, I1, rx, a, dx, fs, ex, ea, l, q⟩ => ?_) ht
  subst ex
  obtain rfl : u = Value.ref a := rx
  refine getmeth_ok I1 ea c hm l ?_
  refine PySem.W.callWith_K (first := [.ref a]) (h₀ := X.base) I.ok.mod.kin hm.kp (thn (ha.run pos pins s1 σ H1 _ I1 q) fun us s2 ⟨vs, H2, I2, r, q2⟩ => ⟨I2.kIn, ?_⟩) hst hpl
  exact run_fnS (us := .ref a :: us) (vs := .ref a :: vs) F hr b (hx σ) I2 (.cons rfl r) q2
/-- C(e, ..) of an error's class with an own __init__ -/
theorem pmk_oexO {CX : CXT} {x : Str} {C fI : Addr} {k : Nat} {ps : List Str} {sp : Sp} {e : Expr} {es : List Expr} {ta : TA} {p pos : Pos} (T : OexC X.K C) (iC : PySem.W.findIn X.K (.ref C) "__init__" = some (some (.ref fI))) (tI : PySem.W.typeIn X.K (.ref fI) = some (.type "function"))
    (O : Ok X.prog X.w X.K X.mg X.base CX k fI ps sp) (hr : Room (k + 1) X.A) (hx : Passes CX X (fun _ _ _ => False)) (hg : Gl X x) (hm : X.mg x = some (.ref C)) (ha : PA X (e :: es) ta)
    (hdb : (x == ("__debug__" : Str)) = false := by decide) (he : starEach (e :: es) X.env = (false, eval e X.env) :: starEach es X.env := by rfl) (hpl : (backTo pos (starEach es X.env)).any (·.1) = false := by rfl) :
    PMk X (.Call (.Name x p) (e :: es) [] pos) (tMkO C sp [] ta) := by
  obtain ⟨fd, F, kp, b⟩ := O.ex
  exact pmk_oex T iC tI F hr b .nil hx hg hm ha hdb he hpl
end
/-! ### errors.py -/
def spRefInit (K : PySem.W.Frag) : Sp := sp2 fun x y H Q _ => ∃ (a : Addr) (i : Int), x = .ref a ∧ y = .int i ∧ H a = some (exo a (He.ga K "Refused") none) ∧
  ∀ H2 d, H d = none → (∀ b o, H b = some o → b ≠ a → H2 b = some o) → H2 a = some (exo a (He.ga K "Refused") (some d)) → H2 d = some (exd d [("code", .int i)]) → Q .non H2
theorem sc_Refused_init : FnScope ["self", "code"] ["self", "code"] (defScope s_Refused_init) := ⟨rfl, rfl, rfl, by decide +kernel, rfl, by decide +kernel, by decide +kernel⟩
theorem ok_Refused_init (T : Tx K mg) : Ok P w K mg base CX0 1 (He.ma K (He.ga K "Refused") "__init__") ["self", "code"] (spRefInit K) := by
  obtain ⟨fd, F0⟩ := T.def_ 49 (d := d_Refused_init) rfl
  have F : FunD K "__init__" "Refused.__init__" (defArgs s_Refused_init) (defBody s_Refused_init) (defScope s_Refused_init) [] [] (He.ma K (He.ga K "Refused") "__init__") fd := F0
  refine ⟨fd, F.ok sc_Refused_init sp2_len (fun cdv A outer s H vs Q E hr h => ?_), F.kp, F.bindsN fun _ _ _ _ _ _ us hl => match us, hl with | [_, _], _ => rfl⟩
  refine ⟨_, PSs.nox (pss_cons (ps_expr (pe_veinit rfl T.b_ValueError T.vin (pa_cons (pv 0) (pa_cons pe_str pa_nil)))) (pss_one (ps_ost (pv 0) (pv 1)))), ?_⟩
  obtain ⟨_, _, rfl, a, i, rfl, rfl, ha, k⟩ := h
  refine q_dropX (x_a (ea_cons (ev_var rfl) (ea_cons ev_c ea_nil)) fun H1 e1 => ⟨a, He.ga K "Refused", _, rfl, by show 1 ≤ 1000; decide, T.oex, e1 _ _ ha, ?_⟩)
  refine x_v (ev_var (i := 1) rfl) fun H2 e2 => x_v (ev_var rfl) fun H3 e3 => ⟨a, He.ga K "Refused", rfl, T.oex, T.rest.2.2.1, Or.inl ⟨(e1.trans (e2.trans e3)) _ _ ha, fun d hd hda => ?_⟩⟩
  have e := e1.trans (e2.trans e3)
  refine k _ d (fresh_back e hd) (fun b o q n => ?_) upd_same ?_
  · rw [upd_ne n, upd_ne (ne_of_none (e _ _ q) hd)]
    exact e _ _ q
  · rw [upd_ne hda]
    exact upd_same
/-- the error with a code -/
def Rf (K : PySem.W.Frag) (H : Hp) (E : XK) (i : Int) : Prop := ∀ H' d fs, Ex H H' → H' d = some (.xd fs) → fs.lookup ("code" : Str) = some (V.int i) → E (.ref (He.ga K "Refused")) (some d) H'
theorem Rf.go {H H' : Hp} {E : XK} {i : Int} (h : Rf K H E i) (e : Ex H H') : Rf K H' E i := fun H2 d fs e2 => h H2 d fs (e.trans e2)
def spNeed (K : PySem.W.Frag) : Sp := sp2 fun x y H Q E => ∃ (b : Bool) (i : Int), x = .bl b ∧ y = .int i ∧ (b = true → RetV .non H Q) ∧ (b = false → Rf K H E i)
theorem sc_need : FnScope ["is_so", "code"] ["is_so", "code"] (defScope s_need) := ⟨rfl, rfl, rfl, by decide +kernel, rfl, by decide +kernel, by decide +kernel⟩
theorem ok_need (T : Tx K mg) : Ok P w K mg base (L2.CX P w) 3 (He.ga K "need") ["is_so", "code"] (spNeed K) := by
  obtain ⟨fd, F0⟩ := T.def_ 50 (d := d_need) rfl
  have F : FunD K "need" "need" (defArgs s_need) (defBody s_need) (defScope s_need) [] [] (He.ga K "need") fd := F0
  refine ⟨fd, F.ok sc_need sp2_len (fun cdv A outer s H vs Q E hr h => ?_), F.kp, F.bindsN fun _ _ _ _ _ _ us hl => match us, hl with | [_, _], _ => rfl⟩
  refine ⟨_, (pss_one (ps_if (pt_not (pt_val (pv 0))) (pss_one (ps_raise rfl (takes_of rfl rfl rfl rfl) (pmk_oexO T.oex T.rest.1 T.rest.2.1 (ok_Refused_init T) (hr.mono (by decide)) pass0 rfl T.g_Refused (pa_cons (pv 1) pa_nil)))) pss_nil)), ?_⟩
  obtain ⟨_, _, rfl, b, i, rfl, rfl, k1, k2⟩ := h
  refine s_when (et_not (et_B (ev_var rfl))) (fun hb H1 e1 => ?_) fun hb H1 e1 => ?_
  · have hb' : b = false := by simpa using hb
    refine x_a (ea_cons (ev_var rfl) ea_nil) fun H2 e2 => ⟨by show 1 ≤ 1000; decide, fun a ha => ⟨_, _, rfl, a, i, rfl, rfl, upd_same, fun H3 d hd f3 h3 h4 => ⟨rfl, d, _, h3, h4, ?_, ?_⟩⟩⟩
    · cases z : H2 d with
      | none => rfl
      | some o =>
        have n : d ≠ a := fun y => by rw [y, ha] at z; cases z
        rw [upd_ne n, z] at hd
        cases hd
    · have hda : d ≠ a := fun y => by rw [y, upd_same] at hd; cases hd
      have hd2 : H2 d = none := by rw [upd_ne hda] at hd; exact hd
      refine k2 hb' _ d [("code", .int i)] (fun b2 o q => ?_) upd_same rfl
      have q2 := e2 _ _ (e1 _ _ q)
      have n1 : b2 ≠ a := ne_of_none q2 ha
      have n2 : b2 ≠ d := ne_of_none q2 hd2
      rw [upd_ne n2, del_ne n1]
      exact f3 b2 o (by rw [upd_ne n1]; exact q2) n1
  · exact k1 (by simpa using hb) H1 e1
end
end Hc
namespace Hc
open PySem PySem.Spec PyProof.Rows L2 Evl
open Hm (attsOf nowC withC withB)
/-! ### what an operation owes -/
def DueE (K : PySem.W.Frag) (H : Hp) (c : Kp423.Client) (x : Kp423.Call) (E : XK) : Prop := ∀ i : Int, Kp423.step (some c) x = (some c, Kp423.single i) → Rf K H E i
def DueR (K : PySem.W.Frag) (H : Hp) (L : Lay) (c : Kp423.Client) (x : Kp423.Call) (Q : VK) : Prop := ∀ c' ans H' L' p, Kp423.step (some c) x = (some c', ans) → Go K H L c H' L' c' → (∀ o, H p = some o → ¬ Tr L c p → False) → H' p = some (.lst ((ans.num :: ans.nums).map V.int)) → Q (.ref p) H'
def spO0 (K : PySem.W.Frag) (x : Kp423.Call) : Sp := sp1 fun a H Q E => ∃ (L : Lay) (c : Kp423.Client), a = .ref L.cl ∧ Rep K H L c ∧ Hm.Wf c ∧ DueE K H c x E ∧ DueR K H L c x Q
def spO1 (K : PySem.W.Frag) (x : Nat → Kp423.Call) : Sp := sp2 fun a b H Q E => ∃ (L : Lay) (c : Kp423.Client) (n : Nat), a = .ref L.cl ∧ b = .int (n : Int) ∧ Rep K H L c ∧ Hm.Wf c ∧ DueE K H c (x n) E ∧ DueR K H L c (x n) Q
def spO2 (K : PySem.W.Frag) (x : Nat → Nat → Kp423.Call) : Sp := sp3 fun a b d H Q E => ∃ (L : Lay) (c : Kp423.Client) (n m : Nat), a = .ref L.cl ∧ b = .int (n : Int) ∧ d = .int (m : Int) ∧ Rep K H L c ∧ Hm.Wf c ∧ DueE K H c (x n m) E ∧ DueR K H L c (x n m) Q
def spO3 (K : PySem.W.Frag) (x : Nat → Nat → Nat → Kp423.Call) : Sp := sp4 fun a b d e H Q E => ∃ (L : Lay) (c : Kp423.Client) (n m l : Nat), a = .ref L.cl ∧ b = .int (n : Int) ∧ d = .int (m : Int) ∧ e = .int (l : Int) ∧ Rep K H L c ∧ Hm.Wf c ∧ DueE K H c (x n m l) E ∧ DueR K H L c (x n m l) Q
section
variable {P : Program} {w : World} {K : PySem.W.Frag} {mg : Str → Option Value} {base : Heap} {H H1 H2 : Hp} {L L' : Lay} {c c' : Kp423.Client} {σ : L2.St}
theorem Go.fresh (g : Go K H L c H1 L' c') {p : Addr} (h : H1 p = none) : ∀ o, H p = some o → ¬ Tr L c p → False := fun o q n => by
  rw [(g.old p o q n).1] at h
  cases h
theorem DueR.ret {x : Kp423.Call} {Q : VK} {ans : Kp423.Ans} (k : DueR K H L c x Q) (G : Go K H L c H1 L' c') {p : Addr} (hp : H1 p = none) (e : Ex H1 H2) (h2 : H2 p = some (.lst ((ans.num :: ans.nums).map V.int))) (hs : Kp423.step (some c) x = (some c', ans)) : Q (.ref p) H2 :=
  k c' ans H2 L' p hs (G.then e) (G.fresh hp) h2
theorem DueE.rf {x : Kp423.Call} {E : XK} {i : Int} (k : DueE K H c x E) (e : Ex H H1) (hs : Kp423.step (some c) x = (some c, Kp423.single i)) : Rf K H1 E i := (k i hs).go e
/-- need(test, code) -/
theorem q_need {tb : TE} {E : XK} {b : Bool} {i : Int} {D : Ends} {tz : TS} (hv : Ev tb σ H (.bl b)) (h1 : b = true → ∀ H1, Ex H H1 → tz D σ H1) (h2 : b = false → Rf K H E i) : tSeq (tDrop (tCall (spNeed K) [] E (tCons tb (tCons (tC (.int i)) tNil)))) tz D σ H :=
  q_dropX (x_call (ea_cons hv (ea_cons ev_c ea_nil)) fun H1 e1 => ⟨_, _, rfl, b, i, rfl, rfl, fun hb H2 e2 => h1 hb H2 (e1.trans e2), fun hb => (h2 hb).go e1⟩)
theorem range_is (x lo hi : Nat) : within (x : Int) (lo : Int) (hi : Int) = Kp423.inRange lo hi x := by
  unfold within Kp423.inRange
  rw [le_cast, le_cast]
theorem ev_range {ta tb tc : TE} {E : XK} {x : Nat} (lo hi : Nat) (ha : Ev ta σ H (.int (x : Int))) (hb : Ev tb σ H (.int (lo : Int))) (hc : Ev tc σ H (.int (hi : Int))) : Ev (tCall spWithin [] E (tCons ta (tCons tb (tCons tc tNil)))) σ H (.bl (Kp423.inRange lo hi x)) :=
  ev_is (ev_within ha hb hc) (congrArg V.bl (range_is x lo hi))
theorem status_is (s : Nat) : statusI (s : Int) = Kp423.validStatus s := by
  unfold statusI within Kp423.validStatus
  rw [Bool.eq_iff_iff]
  simp [Kp423.statusRefused]
  omega
theorem ev_vstatus {ta : TE} {E : XK} {s : Nat} (ha : Ev ta σ H (.int (s : Int))) : Ev (tCall spStatus [] E (tCons ta tNil)) σ H (.bl (Kp423.validStatus s)) := ev_is (ev_status ha) (congrArg V.bl (status_is s))
theorem ev_lt {ta tb : TE} {a b : Nat} (ha : Ev ta σ H (.int (a : Int))) (hb : Ev tb σ H (.int (b : Int))) : Ev (tOp (rI0 fun i j => .bl (decide (i < j))) ta tb) σ H (.bl (decide (a < b))) := ev_is (ev_op ha hb rv_I0) (congrArg V.bl (lt_cast a b))
theorem ev_le {ta tb : TE} {a b : Nat} (ha : Ev ta σ H (.int (a : Int))) (hb : Ev tb σ H (.int (b : Int))) : Ev (tOp (rI0 fun i j => .bl (decide (i ≤ j))) ta tb) σ H (.bl (decide (a ≤ b))) := ev_is (ev_op ha hb rv_I0) (congrArg V.bl (le_cast a b))
theorem ev_eqB {ta tb : TE} {a b : Nat} (ha : Ev ta σ H (.int (a : Int))) (hb : Ev tb σ H (.int (b : Int))) : Ev (tOp rEq ta tb) σ H (.bl (decide (a = b))) := ev_is (ev_op ha hb (rv_eq rfl)) (congrArg V.bl (eq_cast a b))
section
variable {ta tb : TE} (T : Tx K mg) (R : Rep K H L c)
include T R
theorem ev_nb (h : Ev ta σ H (.ref L.cl)) : Ev (tCB (fun xs H Q => ∃ p ys, xs = [V.ref p] ∧ (SqL K H p ys ∨ SqT K H p ys) ∧ Q (.int (ys.length : Nat)) H) (tCons (tFld K ta "backends") tNil)) σ H (.int (nb c : Int)) := by
  have z := ev_lenL (K := K) (rL_backends T h R) (sq_of R.lb)
  rw [List.length_map, List.length_range] at z
  exact z
theorem ev_nc (h : Ev ta σ H (.ref L.cl)) : Ev (tCB (fun xs H Q => ∃ p ys, xs = [V.ref p] ∧ (SqL K H p ys ∨ SqT K H p ys) ∧ Q (.int (ys.length : Nat)) H) (tCons (tFld K ta "calls") tNil)) σ H (.int (nc c : Int)) := by
  have z := ev_lenL (K := K) (rL_calls T h R) (sq_of R.lc)
  rw [List.length_map, List.length_range] at z
  exact z
theorem ev_na (h : Ev ta σ H (.ref L.cl)) : Ev (tCB (fun xs H Q => ∃ p ys, xs = [V.ref p] ∧ (SqL K H p ys ∨ SqT K H p ys) ∧ Q (.int (ys.length : Nat)) H) (tCons (tFld K ta "attempts") tNil)) σ H (.int (na c : Int)) := by
  have z := ev_lenL (K := K) (rL_attempts T h R) (sq_of R.la)
  rw [List.length_map, List.length_range] at z
  exact z
theorem ev_backend (h : Ev ta σ H (.ref L.cl)) {n : Nat} (hn : n < nb c) (hb : Ev tb σ H (.int (n : Int))) : Ev (tOp (rIxL K) (tFld K ta "backends") tb) σ H (.ref (L.b n)) :=
  ev_op (rL_backends T h R) hb (rv_ixL (sq_of R.lb) (atI_nat (by rw [List.getElem?_map, List.getElem?_range hn]; rfl)))
theorem ev_callR (h : Ev ta σ H (.ref L.cl)) {n : Nat} (hn : n < nc c) (hb : Ev tb σ H (.int (n : Int))) : Ev (tOp (rIxL K) (tFld K ta "calls") tb) σ H (.ref (L.k n)) :=
  ev_op (rL_calls T h R) hb (rv_ixL (sq_of R.lc) (atI_nat (by rw [List.getElem?_map, List.getElem?_range hn]; rfl)))
theorem ev_attempt (h : Ev ta σ H (.ref L.cl)) {n : Nat} (hn : n < na c) (hb : Ev tb σ H (.int (n : Int))) : Ev (tOp (rIxL K) (tFld K ta "attempts") tb) σ H (.ref (L.a n)) :=
  ev_op (rL_attempts T h R) hb (rv_ixL (sq_of R.la) (atI_nat (by rw [List.getElem?_map, List.getElem?_range hn]; rfl)))
end
/-! ### operations.py -/
def spAct (K : PySem.W.Frag) : Sp := sp2 fun a b H Q E => ∃ (L : Lay) (c : Kp423.Client) (n : Nat), a = .ref L.cl ∧ b = .int (n : Int) ∧ Rep K H L c ∧ (Kp423.isBackend c n = true → RetV (.ref (L.b n)) H Q) ∧ (Kp423.isBackend c n = false → Rf K H E (-2))
theorem sc_active_backend : FnScope ["client", "number"] ["client", "number"] (defScope s_active_backend) := ⟨rfl, rfl, rfl, by decide +kernel, rfl, by decide +kernel, by decide +kernel⟩
theorem ok_active_backend (T : Tx K mg) : Ok P w K mg base (L2.CX P w) 4 (He.ga K "active_backend") ["client", "number"] (spAct K) := by
  obtain ⟨fd, F0⟩ := T.def_ 51 (d := d_active_backend) rfl
  have F : FunD K "active_backend" "active_backend" (defArgs s_active_backend) (defBody s_active_backend) (defScope s_active_backend) [] [] (He.ga K "active_backend") fd := F0
  refine ⟨fd, F.ok sc_active_backend sp2_len (fun cdv A outer s H vs Q E hr h => ?_), F.kp, F.bindsN fun _ _ _ _ _ _ us hl => match us, hl with | [_, _], _ => rfl⟩
  refine ⟨_, (pss_cons (ps_expr (pe_callO (ok_need T) (hr.mono (by decide)) rfl T.g_need (passes_call (takes_of rfl rfl rfl rfl) fun _ _ _ _ h => h) (pa_cons (pe_and (pe_cmpR op_lt (pv 1) (pe_callB call_len_seq rfl T.b_len (by decide +kernel) (pa_cons (pe_fld (pv 0) rfl) pa_nil)) (nomark _)) (pe_one (pe_fld (pe_ix ix_list (pe_fld (pv 0) rfl) (pv 1) (fun _ _ => rfl)) rfl))) (pa_cons (pe_gi T.i_NOT_THERE) pa_nil)))) (pss_one (ps_ret (pe_ix ix_list (pe_fld (pv 0) rfl) (pv 1) (fun _ _ => rfl))))), ?_⟩
  obtain ⟨_, _, rfl, L, c, n, rfl, rfl, R, k1, k2⟩ := h
  refine q_need (K := K) (ev_andV (b := (Kp423.backendAt c n).active) (ev_lt (ev_var rfl) (ev_nb T R (ev_var rfl))) fun hl => rB_active T (ev_backend T R (ev_var rfl) (of_decide_eq_true hl) (ev_var rfl)) (R.b n (of_decide_eq_true hl))) (fun hb H1 e1 => ?_) fun hb => k2 hb
  have hn : n < nb c := by
    rw [Bool.and_eq_true, decide_eq_true_eq] at hb
    exact hb.1
  exact s_ret (ev_backend T (R.ex e1) (ev_var rfl) hn (ev_var rfl)) fun H2 e2 => k1 hb H2 (e1.trans e2)
theorem sc_add_backend : FnScope ["client", "weight"] ["client", "weight"] (defScope s_add_backend) := ⟨rfl, rfl, rfl, by decide +kernel, rfl, by decide +kernel, by decide +kernel⟩
theorem ok_add_backend (T : Tx K mg) : Ok P w K mg base (L2.CX P w) 12 (He.ga K "add_backend") ["client", "weight"] (spO1 K Kp423.Call.addBackend) := by
  obtain ⟨fd, F0⟩ := T.def_ 52 (d := d_add_backend) rfl
  have F : FunD K "add_backend" "add_backend" (defArgs s_add_backend) (defBody s_add_backend) (defScope s_add_backend) [] [] (He.ga K "add_backend") fd := F0
  refine ⟨fd, F.ok sc_add_backend sp2_len (fun cdv A outer s H vs Q E hr h => ?_), F.kp, F.bindsN fun _ _ _ _ _ _ us hl => match us, hl with | [_, _], _ => rfl⟩
  refine ⟨_, (pss_cons (ps_expr (pe_callO (ok_need T) (hr.mono (by decide)) rfl T.g_need (passes_call (takes_of rfl rfl rfl rfl) fun _ _ _ _ h => h) (pa_cons (pe_callO (ok_is_within T) (hr.mono (by decide)) rfl T.g_is_within pass0 (pa_cons (pv 1) (pa_cons pe_int (pa_cons (pe_gi T.i_MOST_WEIGHT) pa_nil)))) (pa_cons (pe_gi T.i_OUT_OF_LIMITS) pa_nil)))) (pss_cons (ps_expr (pe_callO (ok_need T) (hr.mono (by decide)) rfl T.g_need (passes_call (takes_of rfl rfl rfl rfl) fun _ _ _ _ h => h) (pa_cons (pe_cmpR op_lt (pe_callB call_len_seq rfl T.b_len (by decide +kernel) (pa_cons (pe_fld (pv 0) rfl) pa_nil)) (pe_gi T.i_MOST_BACKENDS) (nomark _)) (pa_cons (pe_gi T.i_TOO_MANY) pa_nil)))) (pss_cons (ps_expr (pe_bm PySem.F.plainAttrs_list PySem.F.slot_list_append PySem.F.type_list_append mt_append (pe_fld (pv 0) rfl) (pa_cons (pe_makeO T.mk_Backend (ok_Backend_init T) (hr.mono (by decide)) rfl T.g_Backend pass0 (pa_cons (pe_callB call_len_seq rfl T.b_len (by decide +kernel) (pa_cons (pe_fld (pv 0) rfl) pa_nil)) (pa_cons (pv 1) pa_nil))) pa_nil))) (pss_one (ps_ret (pe_lst (pa_cons (pe_op op_sub (pe_callB call_len_seq rfl T.b_len (by decide +kernel) (pa_cons (pe_fld (pv 0) rfl) pa_nil)) pe_int) pa_nil))))))), ?_⟩
  obtain ⟨_, _, rfl, L, c, n, rfl, rfl, R, W, kE, kR⟩ := h
  refine q_need (K := K) (ev_range 1 100 (ev_var rfl) ev_c ev_c) (fun hb H1 e1 => ?_) fun hb => kE.rf (Ex.refl H) (by simp [Kp423.step, hb])
  have R1 := R.ex e1
  refine q_need (K := K) (ev_lt (b := 8) (ev_nb T R1 (ev_var rfl)) ev_c) (fun hb2 H2 e2 => ?_) fun hb2 => kE.rf e1 (by
    have : ¬ c.backends.length < 8 := of_decide_eq_false hb2
    have h8 : Kp423.maxBackends ≤ c.backends.length := by unfold Kp423.maxBackends; omega
    simp [Kp423.step, hb, h8])
  have h8 : c.backends.length < 8 := of_decide_eq_true hb2
  have R2 := R1.ex e2
  refine q_dropX (x_bmL (rL_backends T (ev_var rfl) R2) R2.lb fun H3 e3 => x_make (vs := [.int (nb c : Int), .int (n : Int)]) (ea_cons (ev_nb T (R2.ex e3) (ev_var rfl)) (ea_cons (ev_var rfl) ea_nil)) fun H4 p dp e4 hp hd nd => ⟨_, _, _, rfl, p, dp, nb c, n, rfl, rfl, rfl, upd_same, fun H5 h5 f5 => ⟨rfl, ?_⟩⟩)
  have e5 : Ex H4 H5 := Ex.made hp hd f5
  have R4 := (R2.ex e3).ex e4
  have R5 := R4.ex e5
  refine ⟨L.lb, _, .ref p, rfl, rfl, R5.lb, sz_lt (by rw [List.length_map, List.length_range]; exact Nat.lt_trans (show nb c < 8 from h8) (by decide)), ?_⟩
  have npl : p ≠ L.lb := ins_lst h5 R5.lb
  have G6 : Go K H4 L c (upd H5 L.lb (.lst (baL (List.range (nb c)) L.b ++ [.ref p]))) (L.plusB c p) (withB c n) := by
    refine go_addB R4 W hp ?_ upd_same fun a o ha na => ?_
    · obtain ⟨d, y⟩ := h5
      exact ⟨d, by rw [upd_ne npl]; exact y⟩
    · rw [upd_ne na]
      exact e5 _ _ ha
  have G7 : Go K H L c (upd H5 L.lb (.lst (baL (List.range (nb c)) L.b ++ [.ref p]))) (L.plusB c p) (withB c n) := Go.after (e1.trans (e2.trans (e3.trans e4))) R G6
  have l7 := ev_nb (σ := [some (V.ref L.cl), some (V.int (n : Int))]) (ta := tVar 0) T G7.rep (ev_var rfl)
  refine s_retL (el_lst (vs := [.int (nb c : Int)]) (ea_cons (ev_is (ev_op l7 ev_c rv_I0) (congrArg V.int ?_)) ea_nil) (by show 1 ≤ 100000; decide)) fun q H8 hq e8 h8' => kR.ret (ans := Kp423.single (nb c : Int)) G7 hq e8 h8' ?_
  · have : nb (withB c n) = nb c + 1 := Hm.withB_len c n
    rw [this]
    omega
  · have h9 : ¬ Kp423.maxBackends ≤ c.backends.length := by unfold Kp423.maxBackends; omega
    simp [Kp423.step, hb, h9]
    rfl
theorem sc_set_weight : FnScope ["client", "number", "weight", "backend", "previous"] ["client", "number", "weight"] (defScope s_set_weight) := ⟨rfl, rfl, rfl, by decide +kernel, rfl, by decide +kernel, by decide +kernel⟩
theorem ok_set_weight (T : Tx K mg) : Ok P w K mg base (L2.CX P w) 12 (He.ga K "set_weight") ["client", "number", "weight"] (spO2 K Kp423.Call.setWeight) := by
  obtain ⟨fd, F0⟩ := T.def_ 54 (d := d_set_weight) rfl
  have F : FunD K "set_weight" "set_weight" (defArgs s_set_weight) (defBody s_set_weight) (defScope s_set_weight) [] [] (He.ga K "set_weight") fd := F0
  refine ⟨fd, F.ok sc_set_weight sp3_len (fun cdv A outer s H vs Q E hr h => ?_), F.kp, F.bindsN fun _ _ _ _ _ _ us hl => match us, hl with | [_, _, _], _ => rfl⟩
  refine ⟨_, (pss_cons (ps_set (i := 3) sc_set_weight.nd rfl (Or.inl rfl) (pe_callO (ok_active_backend T) (hr.mono (by decide)) rfl T.g_active_backend (passes_call (takes_of rfl rfl rfl rfl) fun _ _ _ _ h => h) (pa_cons (pv 0) (pa_cons (pv 1) pa_nil)))) (pss_cons (ps_expr (pe_callO (ok_need T) (hr.mono (by decide)) rfl T.g_need (passes_call (takes_of rfl rfl rfl rfl) fun _ _ _ _ h => h) (pa_cons (pe_callO (ok_is_within T) (hr.mono (by decide)) rfl T.g_is_within pass0 (pa_cons (pv 2) (pa_cons pe_int (pa_cons (pe_gi T.i_MOST_WEIGHT) pa_nil)))) (pa_cons (pe_gi T.i_OUT_OF_LIMITS) pa_nil)))) (pss_cons (ps_set (i := 4) sc_set_weight.nd rfl (Or.inl rfl) (pe_fld (pv 3) rfl)) (pss_cons (ps_fld (pv 3) (pv 2) rfl) (pss_one (ps_ret (pe_lst (pa_cons (pv 4) pa_nil)))))))), ?_⟩
  obtain ⟨_, _, _, rfl, L, c, n, m, rfl, rfl, rfl, R, W, kE, kR⟩ := h
  refine q_asgX (x_call (ea_cons (ev_var rfl) (ea_cons (ev_var rfl) ea_nil)) fun H1 e1 => ⟨_, _, rfl, L, c, n, rfl, rfl, R.ex e1, fun hb H2 e2 => ?_, fun hb => kE.rf e1 (by simp [Kp423.step, hb])⟩)
  have hn : n < nb c := by
    unfold Kp423.isBackend at hb
    rw [Bool.and_eq_true, decide_eq_true_eq] at hb
    exact hb.1
  have R2 := (R.ex e1).ex e2
  refine q_need (K := K) (ev_range 1 100 (ev_var rfl) ev_c ev_c) (fun hb2 H3 e3 => ?_) fun hb2 => kE.rf (e1.trans e2) (by simp [Kp423.step, hb, hb2])
  have R3 := R2.ex e3
  refine q_asg (rB_weight T (ev_var rfl) (R3.b n hn)) fun H4 e4 => ?_
  refine q_bk { Kp423.backendAt c n with weight := m } T (R3.ex e4) hn (ev_var rfl) (ev_var rfl) T.n_Backend_weight rfl fun H5 G5 => ?_
  have G6 := Go.after ((e1.trans e2).trans (e3.trans e4)) R G5
  exact s_retL (el_lst (ea_cons (ev_var rfl) ea_nil) (by show 1 ≤ 100000; decide)) fun q H6 hq e6 h6 => kR.ret (ans := Kp423.single ((Kp423.backendAt c n).weight : Int)) G6 hq e6 h6 (by simp [Kp423.step, hb, hb2])
theorem sc_remove_backend : FnScope ["client", "number", "backend", "own", "attempt"] ["client", "number"] (defScope s_remove_backend) := ⟨rfl, rfl, rfl, by decide +kernel, rfl, by decide +kernel, by decide +kernel⟩
theorem ok_remove_backend (T : Tx K mg) : Ok P w K mg base (L2.CX P w) 12 (He.ga K "remove_backend") ["client", "number"] (spO1 K Kp423.Call.removeBackend) := by
  obtain ⟨fd, F0⟩ := T.def_ 53 (d := d_remove_backend) rfl
  have F : FunD K "remove_backend" "remove_backend" (defArgs s_remove_backend) (defBody s_remove_backend) (defScope s_remove_backend) [] [] (He.ga K "remove_backend") fd := F0
  refine ⟨fd, F.ok sc_remove_backend sp2_len (fun cdv A outer s H vs Q E hr h => ?_), F.kp, F.bindsN fun _ _ _ _ _ _ us hl => match us, hl with | [_, _], _ => rfl⟩
  refine ⟨_, (pss_cons (ps_set (i := 2) sc_remove_backend.nd rfl (Or.inl rfl) (pe_callO (ok_active_backend T) (hr.mono (by decide)) rfl T.g_active_backend (passes_call (takes_of rfl rfl rfl rfl) fun _ _ _ _ h => h) (pa_cons (pv 0) (pa_cons (pv 1) pa_nil)))) (pss_cons (ps_fld (pv 2) pe_bl rfl) (pss_cons (ps_setLc (i := 3) (own := [("attempt", 4)]) (g := (gName 4)) (tt := (tTest (tOp rEq (tFld K (tFld K (tVar 4) "backend") "number") (tVar 1)))) (te := (tVar 4)) rfl sc_remove_backend.nd rfl rfl (sw_true rfl rfl rfl (by decide +kernel)) (pi_list (pe_meth0O (pv 0) T.c_Client T.m_Client_running_now (ok_Client_running_now T) (hr.mono (by decide)) pass0)) (blkOk_by (own := [("attempt", 4)]) (N := ["client", "number", "backend", "own", "attempt"]) (sc := defScope s_remove_backend) (by decide +kernel)) (fun _ _ _ _ _ => by exact (pg_name (i := 4) sc_remove_backend.nd rfl (Or.inl rfl))) (fun _ _ _ _ _ => by exact (pts_one (pt_cmpR op_eq (pe_fld (pe_fld (pv 4) rfl) rfl) (pv 1) (nomark _)))) (fun _ _ _ _ _ => by exact (pv 4))) (pss_cons (ps_for (passes_of rfl) rfl (pi_list (pv 3)) (pg_name (i := 4) sc_remove_backend.nd rfl (Or.inl rfl)) (pss_one (ps_if (pt_cmpR op_eq (pe_fld (pv 4) rfl) (pe_gi T.i_RUNNING) (nomark _)) (pss_one (ps_expr (pe_methO (pv 0) T.c_Client T.m_Client_end_attempt (ok_Client_end_attempt T) (hr.mono (by decide)) pass0 (pa_cons (pv 4) (pa_cons (pe_gi T.i_UNAVAILABLE_STATUS) (pa_cons pe_int pa_nil)))))) pss_nil))) (pss_one (ps_ret (pe_lst (pa_cons (pe_callB call_len_seq rfl T.b_len (by decide +kernel) (pa_cons (pe_meth0O (pv 0) T.c_Client T.m_Client_active (ok_Client_active T) (hr.mono (by decide)) pass0) pa_nil)) pa_nil)))))))), ?_⟩
  obtain ⟨_, _, rfl, L, c, n, rfl, rfl, R, W, kE, kR⟩ := h
  refine q_asgX (x_call (ea_cons (ev_var rfl) (ea_cons (ev_var rfl) ea_nil)) fun H1 e1 => ⟨_, _, rfl, L, c, n, rfl, rfl, R.ex e1, fun hb H2 e2 => ?_, fun hb => kE.rf e1 (by simp [Kp423.step, hb])⟩)
  have hn : n < nb c := by
    unfold Kp423.isBackend at hb
    rw [Bool.and_eq_true, decide_eq_true_eq] at hb
    exact hb.1
  have R2 := (R.ex e1).ex e2
  refine q_bk { Kp423.backendAt c n with active := false } T R2 hn ev_c (ev_var rfl) T.n_Backend_is_active rfl fun H3 G3 => ?_
  have G3' : Go K H L c H3 L (Hm.off c n) := Go.after (e1.trans e2) R G3
  have R3 := G3'.rep
  have W3 : Hm.Wf (Hm.off c n) := W.off n
  have ob : ∀ j, j < na c → (Kp423.attemptAt c j).backend < nb (Hm.off c n) := fun j hj => (W3.at' j hj).backend
  refine q_asgL (xs := baL (Hm.ownOf c n) L.a) (el_lcMN (K := K) (Kp423.runningAttempts c) (fun j => V.ref (L.a j)) (fun a => (Kp423.attemptAt c a).backend == n) (fun j => V.ref (L.a j)) (show EvL _ _ _ (runV L (Hm.off c n)) from el_mt (f := runV) (ev_var rfl) R3 W3 rfl) ?_ (fun _ => rfl) (fun j hj H4 e4 => ?_) fun j hj H4 e4 _ => ev_var rfl) fun p H4 hp e4 h4 => ?_
  · exact Nat.le_trans (List.length_filter_le _ _) (by rw [List.length_range]; exact na_z W)
  · have hj2 : j < na c := List.mem_range.mp (List.mem_filter.mp hj).1
    refine et_is (et_test (ev_eqB (rB_number T (rA_backend T (ev_var rfl) ((R3.ex e4).a j hj2)) ((R3.ex e4).b _ (ob j hj2))) (ev_var rfl))) ?_
    rw [Bool.eq_iff_iff, decide_eq_true_eq, beq_iff_eq]
    rfl
  have G4 := G3'.then e4
  have nt4 := R3.free hp
  refine q_forLn (xs := baL (Hm.ownOf c n) L.a) (ev_var rfl) (sq_of h4) (fun i σ' H' => ∃ v L', σ' = [some (.ref L.cl), some (.int (n : Int)), some (.ref (L.b n)), some (.ref p), v] ∧ H' p = some (.lst (baL (Hm.ownOf c n) L.a)) ∧ ¬ Tr L' (((Hm.ownOf c n).take i).foldl Hm.compl (Hm.off c n)) p ∧
    Go K H L c H' L' (((Hm.ownOf c n).take i).foldl Hm.compl (Hm.off c n)) ∧ Hm.Wf (((Hm.ownOf c n).take i).foldl Hm.compl (Hm.off c n))) ?_ ?_ ?_ ?_
  · exact fun H5 e5 => ⟨none, L, rfl, e5 _ _ h4, nt4, G4.then e5, W3⟩
  · rintro i _ H5 _ ⟨v, L', rfl, h5, _⟩
    exact sq_of h5
  · rintro i x _ H5 hx ⟨v, L', rfl, h5, nt5, G5, W5⟩
    rw [List.getElem?_map] at hx
    cases hq : (Hm.ownOf c n)[i]? with
    | none => rw [hq] at hx; cases hx
    | some j =>
      rw [hq] at hx
      cases hx
      have hj : j < na c := Hm.own_lt (List.mem_of_getElem? hq)
      have ef : ((Hm.ownOf c n).take (i + 1)).foldl Hm.compl (Hm.off c n) = Hm.compl (((Hm.ownOf c n).take i).foldl Hm.compl (Hm.off c n)) j := by
        rw [Hm.take_more hq, List.foldl_append]
        rfl
      rw [ef]
      generalize ((Hm.ownOf c n).take i).foldl Hm.compl (Hm.off c n) = d at nt5 G5 W5
      have hjd : j < na d := Nat.lt_of_lt_of_le hj G5.le.na
      have eaj : L'.a j = L.a j := G5.le.a j hj
      have A5 := G5.rep.a j hjd
      rw [eaj] at A5
      refine s_when (et_run T (ev_var rfl) A5) (fun hb6 H6 e6 => ?_) fun hb6 H6 e6 => ?_
      · refine s_dropX (x_endA (s := 14) (p := 0) (G5.rep.ex e6) W5 hjd hb6 ?_ ?_ ev_c ev_c fun H7 L7 G7 => ?_)
        · rw [G5.le.cl]
          exact ev_var rfl
        · rw [eaj]
          exact ev_var rfl
        · have ec : Hm.compl d j = Kp423.completeAttempt d j 14 0 := if_pos hb6
          rw [ec]
          exact ⟨some (.ref (L.a j)), L7, rfl, (G7.old _ _ (e6 _ _ h5) nt5).1, (G7.old _ _ (e6 _ _ h5) nt5).2, (G5.then e6).trans G7, W5.complete hjd hb6⟩
      · have ec : Hm.compl d j = d := if_neg (by rw [hb6]; decide)
        rw [ec]
        exact ⟨some (.ref (L.a j)), L', rfl, e6 _ _ h5, nt5, G5.then e6, W5⟩
  · rintro _ H5 ⟨v, L', rfl, h5, _, G5, W5⟩
    rw [List.length_map, List.take_length, ← Hm.remove_is] at G5 W5
    have l6 := ev_lenLN (K := K) (el_mt (E := E0) (f := activeV) (L := L') (c := Kp423.removeBackend c n) (ta := tVar 0) (m := "active") (σ := [some (V.ref L.cl), some (V.int (n : Int)), some (V.ref (L.b n)), some (V.ref p), v]) (by rw [G5.le.cl]; exact ev_var rfl) G5.rep W5 rfl)
    rw [List.length_map] at l6
    exact s_retL (el_lst (ea_cons l6 ea_nil) (by show 1 ≤ 100000; decide)) fun q H8 hq e8 h8 => kR.ret (ans := Kp423.single ((Kp423.activeBackends (Kp423.removeBackend c n)).length : Int)) G5 hq e8 h8 (by simp [Kp423.step, hb])
theorem sc_start_call : FnScope ["client", "timeout", "idempotent", "key", "call"] ["client", "timeout", "idempotent", "key"] (defScope s_start_call) := ⟨rfl, rfl, rfl, by decide +kernel, rfl, by decide +kernel, by decide +kernel⟩
theorem ok_start_call (T : Tx K mg) : Ok P w K mg base (L2.CX P w) 12 (He.ga K "start_call") ["client", "timeout", "idempotent", "key"] (spO3 K Kp423.Call.startCall) := by
  obtain ⟨fd, F0⟩ := T.def_ 55 (d := d_start_call) rfl
  have F : FunD K "start_call" "start_call" (defArgs s_start_call) (defBody s_start_call) (defScope s_start_call) [] [] (He.ga K "start_call") fd := F0
  refine ⟨fd, F.ok sc_start_call sp4_len (fun cdv A outer s H vs Q E hr h => ?_), F.kp, F.bindsN fun _ _ _ _ _ _ us hl => match us, hl with | [_, _, _, _], _ => rfl⟩
  refine ⟨_, (pss_cons (ps_expr (pe_callO (ok_need T) (hr.mono (by decide)) rfl T.g_need (passes_call (takes_of rfl rfl rfl rfl) fun _ _ _ _ h => h) (pa_cons (pe_and (pe_callO (ok_is_within T) (hr.mono (by decide)) rfl T.g_is_within pass0 (pa_cons (pv 1) (pa_cons pe_int (pa_cons (pe_gi T.i_MOST_TIMEOUT) pa_nil)))) (pe_one (pe_cmpR op_le (pv 2) pe_int (nomark _)))) (pa_cons (pe_gi T.i_OUT_OF_LIMITS) pa_nil)))) (pss_cons (ps_expr (pe_callO (ok_need T) (hr.mono (by decide)) rfl T.g_need (passes_call (takes_of rfl rfl rfl rfl) fun _ _ _ _ h => h) (pa_cons (pe_and (pe_cmpR op_lt (pe_callB call_len_seq rfl T.b_len (by decide +kernel) (pa_cons (pe_fld (pv 0) rfl) pa_nil)) (pe_gi T.i_MOST_CALLS) (nomark _)) (pe_one (pe_cmpR op_lt (pe_callB call_len_seq rfl T.b_len (by decide +kernel) (pa_cons (pe_fld (pv 0) rfl) pa_nil)) (pe_gi T.i_MOST_ATTEMPTS) (nomark _)))) (pa_cons (pe_gi T.i_TOO_MANY) pa_nil)))) (pss_cons (ps_set (i := 4) sc_start_call.nd rfl (Or.inl rfl) (pe_methO (pv 0) T.c_Client T.m_Client_open_call (ok_Client_open_call T) (hr.mono (by decide)) pass0 (pa_cons (pv 1) (pa_cons (pe_cmpR op_eq (pv 2) pe_int (nomark _)) (pa_cons (pv 3) pa_nil))))) (pss_one (ps_ret (pe_lst (pa_cons (pe_fld (pv 4) rfl) (pa_cons (pe_meth0O (pv 4) T.c_Call T.m_Call_told_status (ok_Call_told_status T) (hr.mono (by decide)) pass0) pa_nil)))))))), ?_⟩
  obtain ⟨_, _, _, _, rfl, L, c, t, i, key, rfl, rfl, rfl, rfl, R, W, kE, kR⟩ := h
  refine q_need (K := K) (ev_andV (ev_range 1 100000 (ev_var rfl) ev_c ev_c) fun _ => ev_le (b := 1) (ev_var rfl) ev_c) (fun hb H1 e1 => ?_) fun hb => kE.rf (Ex.refl H) (by simp [Kp423.step, hb])
  have R1 := R.ex e1
  refine q_need (K := K) (ev_andV (ev_lt (b := 60) (ev_nc T R1 (ev_var rfl)) ev_c) fun _ => ev_lt (b := 200) (ev_na T R1 (ev_var rfl)) ev_c) (fun hb2 H2 e2 => ?_) fun hb2 => kE.rf e1 (by
    have h8 : Kp423.maxCalls ≤ c.calls.length ∨ Kp423.maxAttemptCount ≤ c.attempts.length := by
      rw [Bool.and_eq_false_iff, decide_eq_false_iff_not, decide_eq_false_iff_not] at hb2
      unfold Kp423.maxCalls Kp423.maxAttemptCount
      have hb3 : ¬ c.calls.length < 60 ∨ ¬ c.attempts.length < 200 := hb2
      omega
    simp [Kp423.step, hb, h8])
  have h8 : c.calls.length < 60 ∧ c.attempts.length < 200 := by
    rw [Bool.and_eq_true, decide_eq_true_eq, decide_eq_true_eq] at hb2
    exact hb2
  have h9 : ¬ (Kp423.maxCalls ≤ c.calls.length ∨ Kp423.maxAttemptCount ≤ c.attempts.length) := by
    unfold Kp423.maxCalls Kp423.maxAttemptCount
    omega
  have R2 := R1.ex e2
  obtain ⟨dx, hd⟩ := R2.cl
  refine q_asgX (x_meth (ev_var rfl) hd rfl (ea_cons (ev_var rfl) (ea_cons (ev_eqB (b := 1) (ev_var rfl) ev_c) (ea_cons (ev_var rfl) ea_nil))) fun H3 e3 => ⟨_, _, _, _, rfl, L, c, t, key, decide (i = 1), rfl, rfl, rfl, rfl, R2.ex e3, W, h8.1, fun H4 L4 G4 => ?_⟩)
  have G4' : Go K H L c H4 L4 (Kp423.startCall c t i key) := by
    have ei : decide (i = 1) = (i == 1) := by rw [Bool.eq_iff_iff, decide_eq_true_eq, beq_iff_eq]
    rw [ei] at G4
    exact Go.after (e1.trans (e2.trans e3)) R G4
  have hnew : nc c < nc (Kp423.startCall c t i key) := by
    have := (Hm.start_calls (withC c (Hm.newC (c.now + t) (i == 1) key)) (nc c) true).1
    obtain ⟨x, hx, _⟩ := this
    show nc c < (Kp423.startAttempt (withC c (Hm.newC (c.now + t) (i == 1) key)) (nc c) true).calls.length
    rw [hx, List.length_set, Hm.withC_len]
    exact Nat.lt_succ_self _
  have C4 := G4'.rep.k _ hnew
  exact s_retL (el_lst (ea_cons (rC_number T (ev_var rfl) C4) (ea_cons (ev_caTold (ev_var rfl) C4) ea_nil)) (by show 2 ≤ 100000; decide)) fun q H8 hq e8 h8 => kR.ret (ans := Kp423.natResult (nc c) [Kp423.callStatus (Kp423.startCall c t i key) (nc c)]) G4' hq e8 h8 (by simp [Kp423.step, hb, h9])
theorem sc_complete : FnScope ["client", "number", "status", "pushback", "attempt"] ["client", "number", "status", "pushback"] (defScope s_complete) := ⟨rfl, rfl, rfl, by decide +kernel, rfl, by decide +kernel, by decide +kernel⟩
theorem ok_complete (T : Tx K mg) : Ok P w K mg base (L2.CX P w) 12 (He.ga K "complete") ["client", "number", "status", "pushback"] (spO3 K Kp423.Call.complete) := by
  obtain ⟨fd, F0⟩ := T.def_ 56 (d := d_complete) rfl
  have F : FunD K "complete" "complete" (defArgs s_complete) (defBody s_complete) (defScope s_complete) [] [] (He.ga K "complete") fd := F0
  refine ⟨fd, F.ok sc_complete sp4_len (fun cdv A outer s H vs Q E hr h => ?_), F.kp, F.bindsN fun _ _ _ _ _ _ us hl => match us, hl with | [_, _, _, _], _ => rfl⟩
  refine ⟨_, (pss_cons (ps_expr (pe_callO (ok_need T) (hr.mono (by decide)) rfl T.g_need (passes_call (takes_of rfl rfl rfl rfl) fun _ _ _ _ h => h) (pa_cons (pe_cmpR op_lt (pv 1) (pe_callB call_len_seq rfl T.b_len (by decide +kernel) (pa_cons (pe_fld (pv 0) rfl) pa_nil)) (nomark _)) (pa_cons (pe_gi T.i_NOT_THERE) pa_nil)))) (pss_cons (ps_expr (pe_callO (ok_need T) (hr.mono (by decide)) rfl T.g_need (passes_call (takes_of rfl rfl rfl rfl) fun _ _ _ _ h => h) (pa_cons (pe_and (pe_callO (ok_is_status T) (hr.mono (by decide)) rfl T.g_is_status pass0 (pa_cons (pv 2) pa_nil)) (pe_one (pe_cmpR op_le (pv 3) (pe_gi T.i_MOST_PUSHBACK) (nomark _)))) (pa_cons (pe_gi T.i_OUT_OF_LIMITS) pa_nil)))) (pss_cons (ps_set (i := 4) sc_complete.nd rfl (Or.inl rfl) (pe_ix ix_list (pe_fld (pv 0) rfl) (pv 1) (fun _ _ => rfl))) (pss_cons (ps_expr (pe_callO (ok_need T) (hr.mono (by decide)) rfl T.g_need (passes_call (takes_of rfl rfl rfl rfl) fun _ _ _ _ h => h) (pa_cons (pe_cmpR op_eq (pe_fld (pv 4) rfl) (pe_gi T.i_RUNNING) (nomark _)) (pa_cons (pe_gi T.i_NOT_OPEN) pa_nil)))) (pss_cons (ps_expr (pe_methO (pv 0) T.c_Client T.m_Client_end_attempt (ok_Client_end_attempt T) (hr.mono (by decide)) pass0 (pa_cons (pv 4) (pa_cons (pv 2) (pa_cons (pv 3) pa_nil))))) (pss_one (ps_ret (pe_lst (pa_cons (pe_meth0O (pe_fld (pv 4) rfl) T.c_Call T.m_Call_told_status (ok_Call_told_status T) (hr.mono (by decide)) pass0) pa_nil))))))))), ?_⟩
  obtain ⟨_, _, _, _, rfl, L, c, a, s2, p, rfl, rfl, rfl, rfl, R, W, kE, kR⟩ := h
  refine q_need (K := K) (ev_lt (ev_var rfl) (ev_na T R (ev_var rfl))) (fun hb H1 e1 => ?_) fun hb => kE.rf (Ex.refl H) (by
    have : Kp423.isAttempt c a = false := hb
    simp [Kp423.step, this])
  have ha : a < na c := of_decide_eq_true hb
  have hia : Kp423.isAttempt c a = true := hb
  have R1 := R.ex e1
  refine q_need (K := K) (ev_andV (ev_vstatus (ev_var rfl)) fun _ => ev_le (b := 100002) (ev_var rfl) ev_c) (fun hb2 H2 e2 => ?_) fun hb2 => kE.rf e1 (by simp [Kp423.step, hia, hb2])
  have R2 := R1.ex e2
  refine q_asg (ev_attempt T R2 (ev_var rfl) ha (ev_var rfl)) fun H3 e3 => ?_
  have R3 := R2.ex e3
  refine q_need (K := K) (ev_is (ev_eqB (b := 0) (rA_state T (ev_var rfl) (R3.a a ha)) ev_c) (congrArg V.bl (run_is _))) (fun hb3 H4 e4 => ?_) fun hb3 => kE.rf ((e1.trans e2).trans e3) (by simp [Kp423.step, hia, hb2, hb3])
  refine q_dropX (x_endA (R3.ex e4) W ha hb3 (ev_var rfl) (ev_var rfl) (ev_var rfl) (ev_var rfl) fun H5 L5 G5 => ?_)
  have G6 := Go.after ((e1.trans e2).trans (e3.trans e4)) R G5
  have kp := Hm.Keep.complete c a s2 p
  have hj : a < na (Kp423.completeAttempt c a s2 p) := G6.le.na |> Nat.lt_of_lt_of_le ha
  have A6 := G6.rep.a a hj
  rw [G6.le.a a ha, kp.call a ha] at A6
  have hc : (Kp423.attemptAt c a).call < nc (Kp423.completeAttempt c a s2 p) := Nat.lt_of_lt_of_le (W.at' a ha).call G6.le.nc
  exact s_retL (el_lst (ea_cons (ev_caTold (rA_call T (ev_var rfl) A6) (G6.rep.k _ hc)) ea_nil) (by show 1 ≤ 100000; decide)) fun q H8 hq e8 h8 => kR.ret (ans := Kp423.single (Kp423.callStatus (Kp423.completeAttempt c a s2 p) (Kp423.attemptAt c a).call : Int)) G6 hq e8 h8 (by simp [Kp423.step, hia, hb2, hb3])
theorem sc_cancel : FnScope ["client", "number", "call", "count"] ["client", "number"] (defScope s_cancel) := ⟨rfl, rfl, rfl, by decide +kernel, rfl, by decide +kernel, by decide +kernel⟩
theorem ok_cancel (T : Tx K mg) : Ok P w K mg base (L2.CX P w) 12 (He.ga K "cancel") ["client", "number"] (spO1 K Kp423.Call.cancel) := by
  obtain ⟨fd, F0⟩ := T.def_ 57 (d := d_cancel) rfl
  have F : FunD K "cancel" "cancel" (defArgs s_cancel) (defBody s_cancel) (defScope s_cancel) [] [] (He.ga K "cancel") fd := F0
  refine ⟨fd, F.ok sc_cancel sp2_len (fun cdv A outer s H vs Q E hr h => ?_), F.kp, F.bindsN fun _ _ _ _ _ _ us hl => match us, hl with | [_, _], _ => rfl⟩
  refine ⟨_, (pss_cons (ps_expr (pe_callO (ok_need T) (hr.mono (by decide)) rfl T.g_need (passes_call (takes_of rfl rfl rfl rfl) fun _ _ _ _ h => h) (pa_cons (pe_cmpR op_lt (pv 1) (pe_callB call_len_seq rfl T.b_len (by decide +kernel) (pa_cons (pe_fld (pv 0) rfl) pa_nil)) (nomark _)) (pa_cons (pe_gi T.i_NOT_THERE) pa_nil)))) (pss_cons (ps_set (i := 2) sc_cancel.nd rfl (Or.inl rfl) (pe_ix ix_list (pe_fld (pv 0) rfl) (pv 1) (fun _ _ => rfl))) (pss_cons (ps_expr (pe_callO (ok_need T) (hr.mono (by decide)) rfl T.g_need (passes_call (takes_of rfl rfl rfl rfl) fun _ _ _ _ h => h) (pa_cons (pe_meth0O (pv 2) T.c_Call T.m_Call_is_open (ok_Call_is_open T) (hr.mono (by decide)) pass0) (pa_cons (pe_gi T.i_NOT_OPEN) pa_nil)))) (pss_cons (ps_set (i := 3) sc_cancel.nd rfl (Or.inl rfl) (pe_callB call_len_seq rfl T.b_len (by decide +kernel) (pa_cons (pe_meth0O (pv 2) T.c_Call T.m_Call_running (ok_Call_running T) (hr.mono (by decide)) pass0) pa_nil))) (pss_cons (ps_expr (pe_methO (pv 0) T.c_Client T.m_Client_end_call (ok_Client_end_call T) (hr.mono (by decide)) pass0 (pa_cons (pv 2) (pa_cons (pe_gi T.i_CANCELLED_STATUS) pa_nil)))) (pss_one (ps_ret (pe_lst (pa_cons (pv 3) pa_nil))))))))), ?_⟩
  obtain ⟨_, _, rfl, L, c, n, rfl, rfl, R, W, kE, kR⟩ := h
  refine q_need (K := K) (ev_lt (ev_var rfl) (ev_nc T R (ev_var rfl))) (fun hb H1 e1 => ?_) fun hb => kE.rf (Ex.refl H) (by
    have : Kp423.isCall c n = false := hb
    simp [Kp423.step, this])
  have hn : n < nc c := of_decide_eq_true hb
  have hic : Kp423.isCall c n = true := hb
  have R1 := R.ex e1
  refine q_asg (ev_callR T R1 (ev_var rfl) hn (ev_var rfl)) fun H2 e2 => ?_
  have R2 := R1.ex e2
  refine q_need (K := K) (ev_open (ev_var rfl) (R2.k n hn)) (fun hb2 H3 e3 => ?_) fun hb2 => kE.rf (e1.trans e2) (by simp [Kp423.step, hic, hb2])
  have R3 := R2.ex e3
  have l3 := ev_lenLN (K := K) (el_running (E := E0) (ta := tVar 2) (σ := [some (V.ref L.cl), some (V.int (n : Int)), some (V.ref (L.k n)), none]) R3 W hn (ev_var rfl))
  rw [List.length_map] at l3
  refine q_asg l3 fun H4 e4 => ?_
  refine q_dropX (x_end (s := 1) (R3.ex e4) W hn (ev_var rfl) (ev_var rfl) ev_c fun H5 G5 => ?_)
  have G6 := Go.after ((e1.trans e2).trans (e3.trans e4)) R G5
  exact s_retL (el_lst (ea_cons (ev_var rfl) ea_nil) (by show 1 ≤ 100000; decide)) fun q H8 hq e8 h8 => kR.ret (ans := Kp423.single ((Kp423.runningOf c n).length : Int)) G6 hq e8 h8 (by simp [Kp423.step, hic, hb2]; rfl)
theorem sc_advance : FnScope ["client", "duration", "fired"] ["client", "duration"] (defScope s_advance) := ⟨rfl, rfl, rfl, by decide +kernel, rfl, by decide +kernel, by decide +kernel⟩
theorem ok_advance (T : Tx K mg) : Ok P w K mg base (L2.CX P w) 12 (He.ga K "advance") ["client", "duration"] (spO1 K Kp423.Call.advance) := by
  obtain ⟨fd, F0⟩ := T.def_ 58 (d := d_advance) rfl
  have F : FunD K "advance" "advance" (defArgs s_advance) (defBody s_advance) (defScope s_advance) [] [] (He.ga K "advance") fd := F0
  refine ⟨fd, F.ok sc_advance sp2_len (fun cdv A outer s H vs Q E hr h => ?_), F.kp, F.bindsN fun _ _ _ _ _ _ us hl => match us, hl with | [_, _], _ => rfl⟩
  refine ⟨_, (pss_cons (ps_expr (pe_callO (ok_need T) (hr.mono (by decide)) rfl T.g_need (passes_call (takes_of rfl rfl rfl rfl) fun _ _ _ _ h => h) (pa_cons (pe_cmpR op_le (pv 1) (pe_gi T.i_MOST_DURATION) (nomark _)) (pa_cons (pe_gi T.i_OUT_OF_LIMITS) pa_nil)))) (pss_cons (ps_set (i := 2) sc_advance.nd rfl (Or.inl rfl) (pe_methO (pv 0) T.c_Client T.m_Client_fire_until (ok_Client_fire_until T) (hr.mono (by decide)) pass0 (pa_cons (pe_op op_add (pe_fld (pv 0) rfl) (pv 1)) pa_nil))) (pss_one (ps_ret (pe_lst (pa_cons (pv 2) (pa_cons (pe_fld (pv 0) rfl) pa_nil))))))), ?_⟩
  obtain ⟨_, _, rfl, L, c, n, rfl, rfl, R, W, kE, kR⟩ := h
  refine q_need (K := K) (ev_le (b := 1000000) (ev_var rfl) ev_c) (fun hb H1 e1 => ?_) fun hb => kE.rf (Ex.refl H) (by
    have : 1000000 < n := by
      have := of_decide_eq_false hb
      omega
    simp [Kp423.step, this])
  have hn : ¬ 1000000 < n := by
    have := of_decide_eq_true hb
    omega
  have R1 := R.ex e1
  obtain ⟨dx, hd⟩ := R1.cl
  refine q_asgX (x_meth (vs := [.int ((c.now + n : Nat) : Int)]) (ev_var rfl) hd rfl (ea_cons (ev_op (rL_now T (ev_var rfl) R1) (ev_var rfl) rv_I0) ea_nil) fun H2 e2 => ⟨_, _, rfl, L, c, c.now + n, rfl, rfl, R1.ex e2, W, Nat.le_add_right _ _, fun H3 L3 G3 => ?_⟩)
  have G4 := Go.after (e1.trans e2) R G3
  refine s_retL (el_lst (ea_cons (ev_var rfl) (ea_cons (rL_now (L := L3) T ?_ G4.rep) ea_nil)) (by show 2 ≤ 100000; decide)) fun q H8 hq e8 h8 => kR.ret (ans := Kp423.natResult (Kp423.fireUntil (c.now + n) 1000 c 0).2 [(Kp423.fireUntil (c.now + n) 1000 c 0).1.now]) G4 hq e8 h8 (by simp [Kp423.step, hn])
  rw [G4.le.cl]
  exact ev_var rfl
def spRunOne (K : PySem.W.Frag) : Sp := sp2 fun a b H Q _ => ∃ (L : Lay) (c : Kp423.Client) (s : Nat), a = .ref L.cl ∧ b = .int (s : Int) ∧ Rep K H L c ∧ Hm.Wf c ∧ ∀ H' L', Go K H L c H' L' (Kp423.runStep c s) → Q .non H'
theorem sc_run_one : FnScope ["client", "status", "some", "waiting"] ["client", "status"] (defScope s_run_one) := ⟨rfl, rfl, rfl, by decide +kernel, rfl, by decide +kernel, by decide +kernel⟩
theorem ok_run_one (T : Tx K mg) : Ok P w K mg base CX0 10 (He.ga K "run_one") ["client", "status"] (spRunOne K) := by
  obtain ⟨fd, F0⟩ := T.def_ 59 (d := d_run_one) rfl
  have F : FunD K "run_one" "run_one" (defArgs s_run_one) (defBody s_run_one) (defScope s_run_one) [] [] (He.ga K "run_one") fd := F0
  refine ⟨fd, F.ok sc_run_one sp2_len (fun cdv A outer s H vs Q E hr h => ?_), F.kp, F.bindsN fun _ _ _ _ _ _ us hl => match us, hl with | [_, _], _ => rfl⟩
  refine ⟨_, PSs.nox (pss_cons (ps_set (i := 2) sc_run_one.nd rfl (Or.inl rfl) (pe_meth0O (pv 0) T.c_Client T.m_Client_running_now (ok_Client_running_now T) (hr.mono (by decide)) pass0)) (pss_cons (ps_if (pt_cmpR (op_neE hr.units0) (pv 2) (pe_lst pa_nil) (nomark _)) (pss_cons (ps_expr (pe_methO (pv 0) T.c_Client T.m_Client_end_attempt (ok_Client_end_attempt T) (hr.mono (by decide)) pass0 (pa_cons (pe_ix ix_list (pv 2) pe_int (fun _ _ => rfl)) (pa_cons (pv 1) (pa_cons pe_int pa_nil))))) (pss_one ps_retN)) pss_nil) (pss_cons (ps_set (i := 3) sc_run_one.nd rfl (Or.inl rfl) (pe_meth0O (pv 0) T.c_Client T.m_Client_all_timers (ok_Client_all_timers T) (hr.mono (by decide)) pass0)) (pss_one (ps_if (pt_cmpR (op_neE hr.units0) (pv 3) (pe_lst pa_nil) (nomark _)) (pss_one (ps_expr (pe_methO (pv 0) T.c_Client T.m_Client_fire (ok_Client_fire T) (hr.mono (by decide)) pass0 (pa_cons (pe_ix ix_list (pv 3) pe_int (fun _ _ => rfl)) pa_nil)))) pss_nil))))), ?_⟩
  obtain ⟨_, _, rfl, L, c, s2, rfl, rfl, R, W, k⟩ := h
  refine q_asgL (el_mt (f := runV) (ev_var rfl) R W rfl) fun p H1 hp e1 h1 => ?_
  have R1 := R.ex e1
  refine q_when (et_test (ev_empV (K := K) (neg := true) (ev_var rfl) (sq_of h1) fun _ _ => el_nil)) (fun hb H2 e2 => ?_) fun hb H2 e2 => ?_
  · cases hr : Kp423.runningAttempts c with
    | nil =>
      unfold runV at hb
      rw [hr] at hb
      cases hb
    | cons j r =>
      have er : Kp423.runStep c s2 = Kp423.completeAttempt c j s2 0 := by
        unfold Kp423.runStep
        rw [hr]
      rw [er] at k
      have hm : j ∈ Kp423.runningAttempts c := by rw [hr]; simp
      obtain ⟨m1, m2⟩ := List.mem_filter.mp hm
      unfold runV at h1
      rw [hr] at h1
      exact q_dropX (x_endA (p := 0) (R1.ex e2) W (List.mem_range.mp m1) m2 (ev_var rfl) (ev_op (ev_var rfl) ev_c (rv_ixL (sq_of (e2 _ _ h1)) (atI_nat (j := 0) rfl))) (ev_var rfl) ev_c fun H3 L3 G3 => s_retN (k H3 L3 (Go.after (e1.trans e2) R G3)))
  have hr : Kp423.runningAttempts c = [] := by
    unfold runV at hb
    simpa using hb
  have R2 := R1.ex e2
  refine q_asgX (x_allT R2 W (ev_var rfl) fun p3 H3 ys hp3 e3 h3 t3 => ?_)
  have R3 := R2.ex e3
  have er : Kp423.runStep c s2 = match Kp423.nextTimer c with
    | none => c
    | some t => Kp423.fire { c with now := max c.now t.time } t := by
    unfold Kp423.runStep
    rw [hr]
    rfl
  rw [er] at k
  refine s_when (et_test (ev_empV (K := K) (neg := true) (ev_var rfl) (sq_of h3) fun _ _ => el_nil)) (fun hb4 H4 e4 => ?_) fun hb4 H4 e4 => ?_
  · cases hT : timL c with
    | nil =>
      rw [hT] at t3
      cases t3
      cases hb4
    | cons a r =>
      rw [hT] at t3
      obtain ⟨tm, hnt, rfl⟩ := tim_cons hT
      rw [hnt] at k
      cases t3 with
      | cons ta tr =>
        obtain ⟨ad, rfl, had⟩ := ta
        have R4 := R3.ex e4
        obtain ⟨dx, hd⟩ := R4.cl
        exact s_dropX (x_meth (ev_var rfl) hd rfl (ea_cons (ev_op (ev_var rfl) ev_c (rv_ixL (sq_of (e4 _ _ h3)) (atI_nat (j := 0) rfl))) ea_nil) fun H5 e5 => ⟨_, _, rfl, L, c, ad, tm, rfl, rfl, e5 _ _ (e4 _ _ had), R4.ex e5, W.nowN hnt, (Hm.raw_mem (Hm.next_some hnt).1).1, fun H6 L6 G6 => k H6 L6 (Go.after ((e1.trans e2).trans (e3.trans (e4.trans e5))) R G6)⟩)
  · have hT : timL c = [] := by
      cases hT : timL c with
      | nil => rfl
      | cons a r =>
        rw [hT] at t3
        cases t3
        cases hb4
    rw [tim_nil hT] at k
    exact k H4 L (Go.ex R ((e1.trans e2).trans (e3.trans e4)))
def spRun (K : PySem.W.Frag) : Sp := sp2 fun a b H Q E => ∃ (L : Lay) (c : Kp423.Client) (p : Addr) (l : List Nat), a = .ref L.cl ∧ b = .ref p ∧ Rep K H L c ∧ Hm.Wf c ∧ H p = some (.lst (natL l)) ∧ l.length ≤ 40000 ∧ ¬ Tr L c p ∧ DueE K H c (.run l) E ∧ DueR K H L c (.run l) Q
theorem sc_run : FnScope ["client", "statuses", "status"] ["client", "statuses"] (defScope s_run) := ⟨rfl, rfl, rfl, by decide +kernel, rfl, by decide +kernel, by decide +kernel⟩
theorem ok_run (T : Tx K mg) : Ok P w K mg base (L2.CX P w) 12 (He.ga K "run") ["client", "statuses"] (spRun K) := by
  obtain ⟨fd, F0⟩ := T.def_ 60 (d := d_run) rfl
  have F : FunD K "run" "run" (defArgs s_run) (defBody s_run) (defScope s_run) [] [] (He.ga K "run") fd := F0
  refine ⟨fd, F.ok sc_run sp2_len (fun cdv A outer s H vs Q E hr h => ?_), F.kp, F.bindsN fun _ _ _ _ _ _ us hl => match us, hl with | [_, _], _ => rfl⟩
  refine ⟨_, (pss_cons (ps_expr (pe_callO (ok_need T) (hr.mono (by decide)) rfl T.g_need (passes_call (takes_of rfl rfl rfl rfl) fun _ _ _ _ h => h) (pa_cons (pe_and (pe_cmpR op_le (pe_callB call_len_seq rfl T.b_len (by decide +kernel) (pa_cons (pv 1) pa_nil)) (pe_gi T.i_MOST_STATUSES) (nomark _)) (pe_one (pe_callB (cr_all rfl) rfl T.b_all (by decide +kernel) (pa_cons (pe_lc (own := [("status", 2)]) (g := (gName 2)) (tt := tYes) (te := (tCall spStatus [] E0 (tCons (tVar 2) tNil))) rfl sc_run.nd (pi_list (pv 1)) (blkOk_by (own := [("status", 2)]) (N := ["client", "statuses", "status"]) (sc := defScope s_run) (by decide +kernel)) (fun _ _ _ _ _ => by exact (pg_name (i := 2) sc_run.nd rfl (Or.inl rfl))) (fun _ _ _ _ _ => by exact pts_nil) (fun _ _ _ _ _ => by exact (pe_callO (ok_is_status T) (hr.mono (by decide)) rfl T.g_is_status pass0 (pa_cons (pv 2) pa_nil)))) pa_nil)))) (pa_cons (pe_gi T.i_OUT_OF_LIMITS) pa_nil)))) (pss_cons (ps_for (passes_of rfl) rfl (pi_list (pv 1)) (pg_name (i := 2) sc_run.nd rfl (Or.inl rfl)) (pss_one (ps_expr (pe_callO (ok_run_one T) (hr.mono (by decide)) rfl T.g_run_one pass0 (pa_cons (pv 0) (pa_cons (pv 2) pa_nil)))))) (pss_one (ps_ret (pe_lst (pa_cons (pe_callB call_len_seq rfl T.b_len (by decide +kernel) (pa_cons (pe_meth0O (pv 0) T.c_Client T.m_Client_running_now (ok_Client_running_now T) (hr.mono (by decide)) pass0) pa_nil)) (pa_cons (pe_fld (pv 0) rfl) pa_nil))))))), ?_⟩
  obtain ⟨_, _, rfl, L, c, p, l, rfl, rfl, R, W, hp, hz, nt, kE, kR⟩ := h
  have len0 := ev_lenL (K := K) (tl := tVar 1) (σ := [some (V.ref L.cl), some (V.ref p), none]) (H := H) (ev_var rfl) (sq_of hp)
  rw [List.length_map] at len0
  have ea : (l.map Kp423.validStatus).all id = l.all Kp423.validStatus := by
    rw [List.all_map]
    rfl
  refine q_need (K := K) (b := decide (l.length ≤ 40) && l.all Kp423.validStatus) (ev_andV (ev_le (b := 40) len0 ev_c) fun _ => ?_) (fun hb H1 e1 => ?_) fun hb => kE.rf (Ex.refl H) (by simp only [Kp423.step, hb]; rfl)
  · rw [← ea]
    refine ev_allN ?_
    rw [List.map_map]
    exact el_lcA (K := K) l (fun (n : Nat) => V.int (n : Int)) (fun n => V.bl (Kp423.validStatus n)) (ev_var rfl) (sq_of hp) hz (fun _ => rfl) fun n hn H1 e1 => ev_vstatus (ev_var rfl)
  refine q_forLn (xs := natL l) (ev_var rfl) (sq_of (e1 _ _ hp)) (fun i σ' H' => ∃ v L', σ' = [some (.ref L.cl), some (.ref p), v] ∧ H' p = some (.lst (natL l)) ∧ ¬ Tr L' ((l.take i).foldl Kp423.runStep c) p ∧ Go K H L c H' L' ((l.take i).foldl Kp423.runStep c) ∧ Hm.Wf ((l.take i).foldl Kp423.runStep c)) ?_ ?_ ?_ ?_
  · exact fun H5 e5 => ⟨none, L, rfl, e5 _ _ (e1 _ _ hp), nt, Go.ex R (e1.trans e5), W⟩
  · rintro i _ H5 _ ⟨v, L', rfl, h5, _⟩
    exact sq_of h5
  · rintro i x _ H5 hx ⟨v, L', rfl, h5, nt5, G5, W5⟩
    rw [List.getElem?_map] at hx
    cases hq : l[i]? with
    | none => rw [hq] at hx; cases hx
    | some s2 =>
      rw [hq] at hx
      cases hx
      have ef : (l.take (i + 1)).foldl Kp423.runStep c = Kp423.runStep ((l.take i).foldl Kp423.runStep c) s2 := by
        rw [Hm.take_more hq, List.foldl_append]
        rfl
      rw [ef]
      generalize (l.take i).foldl Kp423.runStep c = d at nt5 G5 W5
      refine s_dropX (x_call (ea_cons (ev_var rfl) (ea_cons (ev_var rfl) ea_nil)) fun H6 e6 => ⟨_, _, rfl, L', d, s2, by rw [G5.le.cl], rfl, G5.rep.ex e6, W5, fun H7 L7 G7 => ?_⟩)
      exact ⟨some (.int (s2 : Int)), L7, rfl, (G7.old _ _ (e6 _ _ h5) nt5).1, (G7.old _ _ (e6 _ _ h5) nt5).2, (G5.then e6).trans G7, W5.run1 s2⟩
  · rintro _ H5 ⟨v, L', rfl, h5, _, G5, W5⟩
    rw [List.length_map, List.take_length] at G5 W5
    have ev0 : Ev (tVar 0) [some (V.ref L.cl), some (V.ref p), v] H5 (.ref L'.cl) := by
      rw [G5.le.cl]
      exact ev_var rfl
    have l6 := ev_lenLN (K := K) (el_mt (E := E0) (f := runV) (m := "running_now") ev0 G5.rep W5 rfl)
    rw [List.length_map] at l6
    exact s_retL (el_lst (ea_cons l6 (ea_cons (rL_now T ev0 G5.rep) ea_nil)) (by show 2 ≤ 100000; decide)) fun q H8 hq e8 h8 => kR.ret (ans := Kp423.natResult (Kp423.runningAttempts (l.foldl Kp423.runStep c)).length [(l.foldl Kp423.runStep c).now]) G5 hq e8 h8 (by simp only [Kp423.step, hb]; rfl)
end
end Hc
namespace Hc
open PySem PySem.Spec PyProof.Rows L2 Evl
open Hm (attsOf nowC withC withB)
section
variable {P : Program} {w : World} {K : PySem.W.Frag} {mg : Str → Option Value} {base : Heap}
section
variable {H H1 H2 : Hp} {σ : L2.St} {tl ta : TE} {L : Lay} {c : Kp423.Client}
/-- f(l), l a list made on the way -/
theorem el_call1L {sp : Sp} {E : XK} {xs ys : List V} (hl : EvL tl σ H xs) (hs : ∀ p H1, Ex H H1 → H1 p = some (.lst xs) → SpL sp [.ref p] H1 ys) : EvL (tCall sp [] E (tCons tl tNil)) σ H ys := fun H1 e Q q =>
  hl H1 e _ fun p H2 hp e2 h2 => hs p H2 (e.trans e2) h2 H2 (Ex.refl H2) Q (fun p3 H3 hp3 e3 h3 => q p3 H3 (fresh_back e2 hp3) (e2.trans e3) h3) E
theorem el_call2L {sp : Sp} {E : XK} {y : V} {xs ys : List V} (hl : EvL tl σ H xs) (hy : ∀ H1, Ex H H1 → Ev ta σ H1 y) (hs : ∀ p H1, Ex H H1 → H1 p = some (.lst xs) → SpL sp [.ref p, y] H1 ys) : EvL (tCall sp [] E (tCons tl (tCons ta tNil))) σ H ys := fun H1 e Q q =>
  hl H1 e _ fun p H2 hp e2 h2 => hy H2 (e.trans e2) H2 (Ex.refl H2) _ fun H3 e3 => hs p H3 ((e.trans e2).trans e3) (e3 _ _ h2) H3 (Ex.refl H3) Q (fun p4 H4 hp4 e4 h4 => q p4 H4 (fresh_back (e2.trans e3) hp4) ((e2.trans e3).trans e4) h4) E
theorem x_call4L {tb tc : TE} {sp : Sp} {E : XK} {x y z : V} {xs : List V} {Q : VK} (ha : Ev ta σ H x) (hl : ∀ H1, Ex H H1 → EvL tl σ H1 xs) (hb : ∀ H1, Ex H H1 → Ev tb σ H1 y) (hc : ∀ H1, Ex H H1 → Ev tc σ H1 z) (k : ∀ p H1, Ex H H1 → H1 p = some (.lst xs) → sp [x, .ref p, y, z] H1 Q E) : tCall sp [] E (tCons ta (tCons tl (tCons tb (tCons tc tNil)))) σ H Q :=
  ha H (Ex.refl H) _ fun H1 e1 => hl H1 e1 H1 (Ex.refl H1) _ fun p H2 hp e2 h2 => hb H2 (e1.trans e2) H2 (Ex.refl H2) _ fun H3 e3 => hc H3 ((e1.trans e2).trans e3) H3 (Ex.refl H3) _ fun H4 e4 => k p H4 (((e1.trans e2).trans e3).trans e4) (e4 _ _ (e3 _ _ h2))
/-- an operation that only tells -/
theorem DueR.tell {x : Kp423.Call} {Q : VK} {ans : Kp423.Ans} (k : DueR K H L c x Q) (R : Rep K H L c) (e : Ex H H1) {p : Addr} (hp : H1 p = none) (e2 : Ex H1 H2) (h2 : H2 p = some (.lst ((ans.num :: ans.nums).map V.int))) (hs : Kp423.step (some c) x = (some c, ans)) : Q (.ref p) H2 :=
  k.ret (Go.ex R e) hp e2 h2 hs
end
/-! ### reports.py -/
def spCount (K : PySem.W.Frag) : Sp := sp1 fun x H Q _ => ∃ (p : Addr) (xs : List V), x = .ref p ∧ H p = some (.lst xs) ∧ xs.length ≤ 50000 ∧ RetL (.int (xs.length : Int) :: xs) H Q
theorem sc_with_count : FnScope ["numbers"] ["numbers"] (defScope s_with_count) := ⟨rfl, rfl, rfl, by decide +kernel, rfl, by decide +kernel, by decide +kernel⟩
theorem ok_with_count (T : Tx K mg) : Ok P w K mg base CX0 1 (He.ga K "with_count") ["numbers"] (spCount K) := by
  obtain ⟨fd, F0⟩ := T.def_ 61 (d := d_with_count) rfl
  have F : FunD K "with_count" "with_count" (defArgs s_with_count) (defBody s_with_count) (defScope s_with_count) [] [] (He.ga K "with_count") fd := F0
  refine ⟨fd, F.ok sc_with_count sp1_len (fun cdv A outer s H vs Q E hr h => ?_), F.kp, F.bindsN fun _ _ _ _ _ _ us hl => match us, hl with | [_], _ => rfl⟩
  refine ⟨_, PSs.nox (pss_one (ps_ret (pe_op op_cat (pe_lst (pa_cons (pe_callB call_len_seq rfl T.b_len (by decide +kernel) (pa_cons (pv 0) pa_nil)) pa_nil)) (pv 0)))), ?_⟩
  obtain ⟨_, rfl, p, xs, rfl, hp, hz, k⟩ := h
  exact s_retL (el_catW (K := K) (xs := [.int (xs.length : Int)]) (el_lst (ea_cons (ev_lenL (K := K) (ev_var rfl) (sq_of hp)) ea_nil) (by show 1 ≤ 100000; decide)) (ev_var rfl) hp (by show 1 + xs.length ≤ 100000; omega)) k
theorem el_count {H : Hp} {σ : L2.St} {tl : TE} {E : XK} {xs : List V} (hl : EvL tl σ H xs) (hz : xs.length ≤ 50000) : EvL (tCall (spCount K) [] E (tCons tl tNil)) σ H (.int (xs.length : Int) :: xs) :=
  el_call1L hl fun p H1 e1 h1 => spL_of fun H2 e2 Q E r => ⟨_, rfl, p, xs, rfl, e2 _ _ h1, hz, r⟩
theorem lr_is (l : List Nat) : V.int (((natL l).length : Nat) : Int) :: natL l = (((Kp423.listResult l).num :: (Kp423.listResult l).nums).map V.int) := by
  show V.int (((natL l).length : Nat) : Int) :: natL l = V.int (l.length : Int) :: (l.map fun (x : Nat) => (x : Int)).map V.int
  rw [List.length_map, List.map_map]
  rfl
theorem sc_next_timer : FnScope ["client", "waiting"] ["client"] (defScope s_next_timer) := ⟨rfl, rfl, rfl, by decide +kernel, rfl, by decide +kernel, by decide +kernel⟩
theorem ok_next_timer (T : Tx K mg) : Ok P w K mg base (L2.CX P w) 12 (He.ga K "next_timer") ["client"] (spO0 K Kp423.Call.nextTimer) := by
  obtain ⟨fd, F0⟩ := T.def_ 62 (d := d_next_timer) rfl
  have F : FunD K "next_timer" "next_timer" (defArgs s_next_timer) (defBody s_next_timer) (defScope s_next_timer) [] [] (He.ga K "next_timer") fd := F0
  refine ⟨fd, F.ok sc_next_timer sp1_len (fun cdv A outer s H vs Q E hr h => ?_), F.kp, F.bindsN fun _ _ _ _ _ _ us hl => match us, hl with | [_], _ => rfl⟩
  refine ⟨_, (pss_cons (ps_set (i := 1) sc_next_timer.nd rfl (Or.inl rfl) (pe_meth0O (pv 0) T.c_Client T.m_Client_all_timers (ok_Client_all_timers T) (hr.mono (by decide)) pass0)) (pss_cons (ps_expr (pe_callO (ok_need T) (hr.mono (by decide)) rfl T.g_need (passes_call (takes_of rfl rfl rfl rfl) fun _ _ _ _ h => h) (pa_cons (pe_cmpR (op_neE hr.units0) (pv 1) (pe_lst pa_nil) (nomark _)) (pa_cons (pe_gi T.i_NOTHING) pa_nil)))) (pss_one (ps_ret (pe_callTy call_list_of rfl T.b_list (by decide +kernel) (pa_cons (pe_ix ix_list (pv 1) pe_int (fun _ _ => rfl)) pa_nil)))))), ?_⟩
  obtain ⟨_, rfl, L, c, rfl, R, W, kE, kR⟩ := h
  refine q_asgX (x_allT R W (ev_var rfl) fun p H1 ys hp e1 h1 t1 => ?_)
  refine q_need (K := K) (ev_empV (K := K) (neg := true) (ev_var rfl) (sq_of h1) fun _ _ => el_nil) (fun hb H2 e2 => ?_) fun hb => ?_
  · cases hT : timL c with
    | nil =>
      rw [hT] at t1
      cases t1
      cases hb
    | cons a r =>
      rw [hT] at t1
      obtain ⟨tm, hnt, rfl⟩ := tim_cons hT
      cases t1 with
      | cons ta tr =>
        obtain ⟨ad, rfl, had⟩ := ta
        exact s_retL (el_listT (K := K) (ev_op (ev_var rfl) ev_c (rv_ixL (sq_of (e2 _ _ h1)) (atI_nat (j := 0) rfl))) (st_of (e2 _ _ had))) fun q H8 hq e8 h8 => kR.tell (ans := Kp423.natResult tm.time [tm.kind, tm.call]) R (e1.trans e2) hq e8 h8 (by simp [Kp423.step, hnt])
  · have hT : timL c = [] := by
      cases hT : timL c with
      | nil => rfl
      | cons a r =>
        rw [hT] at t1
        cases t1
        cases hb
    exact kE.rf e1 (by simp [Kp423.step, tim_nil hT])
theorem b01 (b : Bool) : (if b then (1 : Int) else 0) = (((if b then 1 else 0 : Nat)) : Int) := by cases b <;> rfl
theorem sc_call_info : FnScope ["client", "number", "call", "found"] ["client", "number"] (defScope s_call_info) := ⟨rfl, rfl, rfl, by decide +kernel, rfl, by decide +kernel, by decide +kernel⟩
theorem ok_call_info (T : Tx K mg) : Ok P w K mg base (L2.CX P w) 12 (He.ga K "call_info") ["client", "number"] (spO1 K Kp423.Call.callInfo) := by
  obtain ⟨fd, F0⟩ := T.def_ 63 (d := d_call_info) rfl
  have F : FunD K "call_info" "call_info" (defArgs s_call_info) (defBody s_call_info) (defScope s_call_info) [] [] (He.ga K "call_info") fd := F0
  refine ⟨fd, F.ok sc_call_info sp2_len (fun cdv A outer s H vs Q E hr h => ?_), F.kp, F.bindsN fun _ _ _ _ _ _ us hl => match us, hl with | [_, _], _ => rfl⟩
  refine ⟨_, (pss_cons (ps_expr (pe_callO (ok_need T) (hr.mono (by decide)) rfl T.g_need (passes_call (takes_of rfl rfl rfl rfl) fun _ _ _ _ h => h) (pa_cons (pe_cmpR op_lt (pv 1) (pe_callB call_len_seq rfl T.b_len (by decide +kernel) (pa_cons (pe_fld (pv 0) rfl) pa_nil)) (nomark _)) (pa_cons (pe_gi T.i_NOT_THERE) pa_nil)))) (pss_cons (ps_set (i := 2) sc_call_info.nd rfl (Or.inl rfl) (pe_ix ix_list (pe_fld (pv 0) rfl) (pv 1) (fun _ _ => rfl))) (pss_cons (ps_set (i := 3) sc_call_info.nd rfl (Or.inl rfl) (pe_lst (pa_cons (pe_meth0O (pv 2) T.c_Call T.m_Call_told_status (ok_Call_told_status T) (hr.mono (by decide)) pass0) (pa_cons (pe_fld (pv 2) rfl) (pa_cons (pe_fld (pv 2) rfl) (pa_cons (pe_fld (pv 2) rfl) (pa_cons (pe_callTy call_int1 rfl T.b_int (by decide +kernel) (pa_cons (pe_fld (pv 2) rfl) pa_nil)) pa_nil))))))) (pss_one (ps_ret (pe_op op_cat (pv 3) (pe_lst (pa_cons (pe_callO (ok_told_or_nothing T) (hr.mono (by decide)) rfl T.g_told_or_nothing pass0 (pa_cons (pe_fld (pv 2) rfl) pa_nil)) (pa_cons (pe_callO (ok_told_or_nothing T) (hr.mono (by decide)) rfl T.g_told_or_nothing pass0 (pa_cons (pe_fld (pv 2) rfl) pa_nil)) (pa_cons (pe_fld (pv 2) rfl) pa_nil)))))))))), ?_⟩
  obtain ⟨_, _, rfl, L, c, n, rfl, rfl, R, W, kE, kR⟩ := h
  refine q_need (K := K) (ev_lt (ev_var rfl) (ev_nc T R (ev_var rfl))) (fun hb H1 e1 => ?_) fun hb => kE.rf (Ex.refl H) (by
    have : Kp423.isCall c n = false := hb
    simp [Kp423.step, this])
  have hn : n < nc c := of_decide_eq_true hb
  have hic : Kp423.isCall c n = true := hb
  have R1 := R.ex e1
  refine q_asg (ev_callR T R1 (ev_var rfl) hn (ev_var rfl)) fun H2 e2 => ?_
  have C2 := (R1.ex e2).k n hn
  refine q_asgL (el_lst (ea_cons (ev_caTold (ev_var rfl) C2) (ea_cons (rC_deadline T (ev_var rfl) C2) (ea_cons (rC_counted T (ev_var rfl) C2) (ea_cons (rC_retries T (ev_var rfl) C2) (ea_cons (ev_intB (rC_transparent T (ev_var rfl) C2)) ea_nil))))) (by show 5 ≤ 100000; decide)) fun p H3 hp e3 h3 => ?_
  have C3 := C2.ex e3
  refine s_retL (el_catV (K := K) (ev_var rfl) h3 (fun H4 e4 => el_lst (ea_cons (ev_told (rC_retry_at T (ev_var rfl) (C3.ex e4))) (ea_cons (ev_told (rC_hedge_at T (ev_var rfl) (C3.ex e4))) (ea_cons (rC_finished T (ev_var rfl) (C3.ex e4)) ea_nil))) (by show 3 ≤ 100000; decide)) (by show 5 + 3 ≤ 100000; decide)) fun q H8 hq e8 h8 =>
    kR.tell (ans := Kp423.natResult (Kp423.callStatus c n) [(Kp423.callAt c n).deadline, (Kp423.callAt c n).counted, (Kp423.callAt c n).retries, if (Kp423.callAt c n).transparent then 1 else 0, Kp423.optionNumber (Kp423.callAt c n).retryAt, Kp423.optionNumber (Kp423.callAt c n).hedgeAt, (Kp423.callAt c n).finishedAt]) R ((e1.trans e2).trans e3) hq e8 (h8.trans ?_) (by simp [Kp423.step, hic])
  rw [b01]
  rfl
theorem sc_attempt_info : FnScope ["client", "number", "attempt", "found"] ["client", "number"] (defScope s_attempt_info) := ⟨rfl, rfl, rfl, by decide +kernel, rfl, by decide +kernel, by decide +kernel⟩
theorem ok_attempt_info (T : Tx K mg) : Ok P w K mg base (L2.CX P w) 12 (He.ga K "attempt_info") ["client", "number"] (spO1 K Kp423.Call.attemptInfo) := by
  obtain ⟨fd, F0⟩ := T.def_ 64 (d := d_attempt_info) rfl
  have F : FunD K "attempt_info" "attempt_info" (defArgs s_attempt_info) (defBody s_attempt_info) (defScope s_attempt_info) [] [] (He.ga K "attempt_info") fd := F0
  refine ⟨fd, F.ok sc_attempt_info sp2_len (fun cdv A outer s H vs Q E hr h => ?_), F.kp, F.bindsN fun _ _ _ _ _ _ us hl => match us, hl with | [_, _], _ => rfl⟩
  refine ⟨_, (pss_cons (ps_expr (pe_callO (ok_need T) (hr.mono (by decide)) rfl T.g_need (passes_call (takes_of rfl rfl rfl rfl) fun _ _ _ _ h => h) (pa_cons (pe_cmpR op_lt (pv 1) (pe_callB call_len_seq rfl T.b_len (by decide +kernel) (pa_cons (pe_fld (pv 0) rfl) pa_nil)) (nomark _)) (pa_cons (pe_gi T.i_NOT_THERE) pa_nil)))) (pss_cons (ps_set (i := 2) sc_attempt_info.nd rfl (Or.inl rfl) (pe_ix ix_list (pe_fld (pv 0) rfl) (pv 1) (fun _ _ => rfl))) (pss_cons (ps_set (i := 3) sc_attempt_info.nd rfl (Or.inl rfl) (pe_lst (pa_cons (pe_fld (pe_fld (pv 2) rfl) rfl) (pa_cons (pe_fld (pe_fld (pv 2) rfl) rfl) (pa_cons (pe_fld (pv 2) rfl) (pa_cons (pe_fld (pv 2) rfl) pa_nil)))))) (pss_one (ps_ret (pe_op op_cat (pv 3) (pe_lst (pa_cons (pe_op op_sub (pe_fld (pe_fld (pv 2) rfl) rfl) (pe_fld (pv 2) rfl)) (pa_cons (pe_fld (pv 2) rfl) (pa_cons (pe_fld (pv 2) rfl) pa_nil)))))))))), ?_⟩
  obtain ⟨_, _, rfl, L, c, n, rfl, rfl, R, W, kE, kR⟩ := h
  refine q_need (K := K) (ev_lt (ev_var rfl) (ev_na T R (ev_var rfl))) (fun hb H1 e1 => ?_) fun hb => kE.rf (Ex.refl H) (by
    have : Kp423.isAttempt c n = false := hb
    simp [Kp423.step, this])
  have hn : n < na c := of_decide_eq_true hb
  have hia : Kp423.isAttempt c n = true := hb
  have aok := W.at' n hn
  have R1 := R.ex e1
  refine q_asg (ev_attempt T R1 (ev_var rfl) hn (ev_var rfl)) fun H2 e2 => ?_
  have R2 := R1.ex e2
  have A2 := R2.a n hn
  refine q_asgL (el_lst (ea_cons (rC_number T (rA_call T (ev_var rfl) A2) (R2.k _ aok.call)) (ea_cons (rB_number T (rA_backend T (ev_var rfl) A2) (R2.b _ aok.backend)) (ea_cons (rA_place T (ev_var rfl) A2) (ea_cons (rA_started T (ev_var rfl) A2) ea_nil)))) (by show 4 ≤ 100000; decide)) fun p H3 hp e3 h3 => ?_
  have R3 := R2.ex e3
  have A3 := A2.ex e3
  refine s_retL (el_catV (K := K) (ev_var rfl) h3 (fun H4 e4 => el_lst (ea_cons (ev_op (rC_deadline T (rA_call T (ev_var rfl) (A3.ex e4)) ((R3.ex e4).k _ aok.call)) (rA_started T (ev_var rfl) (A3.ex e4)) rv_I0) (ea_cons (rA_state T (ev_var rfl) (A3.ex e4)) (ea_cons (rA_status T (ev_var rfl) (A3.ex e4)) ea_nil))) (by show 3 ≤ 100000; decide)) (by show 4 + 3 ≤ 100000; decide)) fun q H8 hq e8 h8 =>
    kR.tell (ans := Kp423.natResult (Kp423.attemptAt c n).call ([(Kp423.attemptAt c n).backend, (Kp423.attemptAt c n).number, (Kp423.attemptAt c n).startedAt, (Kp423.callAt c (Kp423.attemptAt c n).call).deadline - (Kp423.attemptAt c n).startedAt] ++ Kp423.attemptNumbers (Kp423.attemptAt c n))) R ((e1.trans e2).trans e3) hq e8 (h8.trans ?_) (by simp [Kp423.step, hia])
  have ed : ((Kp423.callAt c (Kp423.attemptAt c n).call).deadline : Int) - ((Kp423.attemptAt c n).startedAt : Int) = (((Kp423.callAt c (Kp423.attemptAt c n).call).deadline - (Kp423.attemptAt c n).startedAt : Nat) : Int) := by
    have := aok.time
    omega
  rw [ed, Hm.nums_is]
  rfl
theorem sc_call_attempts : FnScope ["client", "number", "attempt"] ["client", "number"] (defScope s_call_attempts) := ⟨rfl, rfl, rfl, by decide +kernel, rfl, by decide +kernel, by decide +kernel⟩
theorem ok_call_attempts (T : Tx K mg) : Ok P w K mg base (L2.CX P w) 12 (He.ga K "call_attempts") ["client", "number"] (spO1 K Kp423.Call.callAttempts) := by
  obtain ⟨fd, F0⟩ := T.def_ 65 (d := d_call_attempts) rfl
  have F : FunD K "call_attempts" "call_attempts" (defArgs s_call_attempts) (defBody s_call_attempts) (defScope s_call_attempts) [] [] (He.ga K "call_attempts") fd := F0
  refine ⟨fd, F.ok sc_call_attempts sp2_len (fun cdv A outer s H vs Q E hr h => ?_), F.kp, F.bindsN fun _ _ _ _ _ _ us hl => match us, hl with | [_, _], _ => rfl⟩
  refine ⟨_, (pss_cons (ps_expr (pe_callO (ok_need T) (hr.mono (by decide)) rfl T.g_need (passes_call (takes_of rfl rfl rfl rfl) fun _ _ _ _ h => h) (pa_cons (pe_cmpR op_lt (pv 1) (pe_callB call_len_seq rfl T.b_len (by decide +kernel) (pa_cons (pe_fld (pv 0) rfl) pa_nil)) (nomark _)) (pa_cons (pe_gi T.i_NOT_THERE) pa_nil)))) (pss_one (ps_ret (pe_callO (ok_with_count T) (hr.mono (by decide)) rfl T.g_with_count pass0 (pa_cons (pe_lc (own := [("attempt", 2)]) (g := (gName 2)) (tt := tYes) (te := (tFld K (tVar 2) "number")) rfl sc_call_attempts.nd (pi_list (pe_fld (pe_ix ix_list (pe_fld (pv 0) rfl) (pv 1) (fun _ _ => rfl)) rfl)) (blkOk_by (own := [("attempt", 2)]) (N := ["client", "number", "attempt"]) (sc := defScope s_call_attempts) (by decide +kernel)) (fun _ _ _ _ _ => by exact (pg_name (i := 2) sc_call_attempts.nd rfl (Or.inl rfl))) (fun _ _ _ _ _ => by exact pts_nil) (fun _ _ _ _ _ => by exact (pe_fld (pv 2) rfl))) pa_nil))))), ?_⟩
  obtain ⟨_, _, rfl, L, c, n, rfl, rfl, R, W, kE, kR⟩ := h
  refine q_need (K := K) (ev_lt (ev_var rfl) (ev_nc T R (ev_var rfl))) (fun hb H1 e1 => ?_) fun hb => kE.rf (Ex.refl H) (by
    have : Kp423.isCall c n = false := hb
    simp [Kp423.step, this])
  have hn : n < nc c := of_decide_eq_true hb
  have hic : Kp423.isCall c n = true := hb
  have R1 := R.ex e1
  have zl := Nat.le_trans (Hm.atts_len c n) W.few
  refine s_retL (el_count (K := K) (xs := natL (attsOf c n)) (el_lcA (K := K) (attsOf c n) (fun j => V.ref (L.a j)) (fun (j : Nat) => V.int (j : Int)) (rC_attempts T (ev_callR T R1 (ev_var rfl) hn (ev_var rfl)) (R1.k n hn)) (sq_of (R1.kl n hn)) (by omega) (fun _ => rfl) fun j hj H2 e2 => rA_number T (ev_var rfl) ((R1.ex e2).a j (Hm.atts_lt hj))) (by rw [List.length_map]; omega)) fun q H8 hq e8 h8 =>
    kR.tell (ans := Kp423.listResult (attsOf c n)) R e1 hq e8 (h8.trans (by rw [lr_is])) (by simp [Kp423.step, hic]; rfl)
theorem sc_backend_info : FnScope ["client", "number", "backend", "found", "is_now"] ["client", "number"] (defScope s_backend_info) := ⟨rfl, rfl, rfl, by decide +kernel, rfl, by decide +kernel, by decide +kernel⟩
theorem ok_backend_info (T : Tx K mg) : Ok P w K mg base (L2.CX P w) 12 (He.ga K "backend_info") ["client", "number"] (spO1 K Kp423.Call.backendInfo) := by
  obtain ⟨fd, F0⟩ := T.def_ 66 (d := d_backend_info) rfl
  have F : FunD K "backend_info" "backend_info" (defArgs s_backend_info) (defBody s_backend_info) (defScope s_backend_info) [] [] (He.ga K "backend_info") fd := F0
  refine ⟨fd, F.ok sc_backend_info sp2_len (fun cdv A outer s H vs Q E hr h => ?_), F.kp, F.bindsN fun _ _ _ _ _ _ us hl => match us, hl with | [_, _], _ => rfl⟩
  refine ⟨_, (pss_cons (ps_expr (pe_callO (ok_need T) (hr.mono (by decide)) rfl T.g_need (passes_call (takes_of rfl rfl rfl rfl) fun _ _ _ _ h => h) (pa_cons (pe_cmpR op_lt (pv 1) (pe_callB call_len_seq rfl T.b_len (by decide +kernel) (pa_cons (pe_fld (pv 0) rfl) pa_nil)) (nomark _)) (pa_cons (pe_gi T.i_NOT_THERE) pa_nil)))) (pss_cons (ps_set (i := 2) sc_backend_info.nd rfl (Or.inl rfl) (pe_ix ix_list (pe_fld (pv 0) rfl) (pv 1) (fun _ _ => rfl))) (pss_cons (ps_set (i := 3) sc_backend_info.nd rfl (Or.inl rfl) (pe_lst (pa_cons (pe_callTy call_int1 rfl T.b_int (by decide +kernel) (pa_cons (pe_fld (pv 2) rfl) pa_nil)) (pa_cons (pe_fld (pv 2) rfl) (pa_cons (pe_fld (pv 2) rfl) (pa_cons (pe_fld (pv 2) rfl) (pa_cons (pe_fld (pv 2) rfl) pa_nil))))))) (pss_cons (ps_set (i := 4) sc_backend_info.nd rfl (Or.inl rfl) (pe_methO (pv 2) T.c_Backend T.m_Backend_is_ejected (ok_Backend_is_ejected T) (hr.mono (by decide)) pass0 (pa_cons (pe_fld (pv 0) rfl) pa_nil))) (pss_one (ps_ret (pe_op op_cat (pv 3) (pe_lst (pa_cons (pe_callO (ok_told_or_nothing T) (hr.mono (by decide)) rfl T.g_told_or_nothing pass0 (pa_cons (pe_fld (pv 2) rfl) pa_nil)) (pa_cons (pe_callTy call_int1 rfl T.b_int (by decide +kernel) (pa_cons (pv 4) pa_nil)) (pa_cons (pe_fld (pv 2) rfl) pa_nil))))))))))), ?_⟩
  obtain ⟨_, _, rfl, L, c, n, rfl, rfl, R, W, kE, kR⟩ := h
  refine q_need (K := K) (ev_lt (ev_var rfl) (ev_nb T R (ev_var rfl))) (fun hb H1 e1 => ?_) fun hb => kE.rf (Ex.refl H) (by
    have : ¬ n < c.backends.length := of_decide_eq_false hb
    simp [Kp423.step, this])
  have hn : n < c.backends.length := of_decide_eq_true hb
  have R1 := R.ex e1
  refine q_asg (ev_backend T R1 (ev_var rfl) hn (ev_var rfl)) fun H2 e2 => ?_
  have B2 := (R1.ex e2).b n hn
  refine q_asgL (el_lst (ea_cons (ev_intB (rB_active T (ev_var rfl) B2)) (ea_cons (rB_weight T (ev_var rfl) B2) (ea_cons (rB_outstanding T (ev_var rfl) B2) (ea_cons (rB_failures T (ev_var rfl) B2) (ea_cons (rB_ejections T (ev_var rfl) B2) ea_nil))))) (by show 5 ≤ 100000; decide)) fun p H3 hp e3 h3 => ?_
  have B3 := B2.ex e3
  refine q_asg (ev_isEj (ev_var rfl) (rL_now T (ev_var rfl) ((R1.ex e2).ex e3)) B3) fun H4 e4 => ?_
  have B4 := B3.ex e4
  refine s_retL (el_catV (K := K) (ev_var rfl) (e4 _ _ h3) (fun H5 e5 => el_lst (ea_cons (ev_told (rB_until T (ev_var rfl) (B4.ex e5))) (ea_cons (ev_intB (ev_var rfl)) (ea_cons (rB_current T (ev_var rfl) (B4.ex e5)) ea_nil))) (by show 3 ≤ 100000; decide)) (by show 5 + 3 ≤ 100000; decide)) fun q H8 hq e8 h8 =>
    kR.tell (ans := ⟨if (Kp423.backendAt c n).active then 1 else 0, [((Kp423.backendAt c n).weight : Int), ((Kp423.backendAt c n).outstanding : Int), ((Kp423.backendAt c n).failures : Int), ((Kp423.backendAt c n).ejections : Int), (Kp423.optionNumber (Kp423.backendAt c n).ejectedUntil : Int), if Kp423.isEjected c n then 1 else 0, (Kp423.backendAt c n).current]⟩) R ((e1.trans e2).trans (e3.trans e4)) hq e8 h8 (by simp [Kp423.step, hn])
theorem sc_running_attempts : FnScope ["client", "attempt"] ["client"] (defScope s_running_attempts) := ⟨rfl, rfl, rfl, by decide +kernel, rfl, by decide +kernel, by decide +kernel⟩
theorem ok_running_attempts (T : Tx K mg) : Ok P w K mg base (L2.CX P w) 12 (He.ga K "running_attempts") ["client"] (spO0 K Kp423.Call.runningAttempts) := by
  obtain ⟨fd, F0⟩ := T.def_ 67 (d := d_running_attempts) rfl
  have F : FunD K "running_attempts" "running_attempts" (defArgs s_running_attempts) (defBody s_running_attempts) (defScope s_running_attempts) [] [] (He.ga K "running_attempts") fd := F0
  refine ⟨fd, F.ok sc_running_attempts sp1_len (fun cdv A outer s H vs Q E hr h => ?_), F.kp, F.bindsN fun _ _ _ _ _ _ us hl => match us, hl with | [_], _ => rfl⟩
  refine ⟨_, (pss_one (ps_ret (pe_callO (ok_with_count T) (hr.mono (by decide)) rfl T.g_with_count pass0 (pa_cons (pe_lc (own := [("attempt", 1)]) (g := (gName 1)) (tt := tYes) (te := (tFld K (tVar 1) "number")) rfl sc_running_attempts.nd (pi_list (pe_meth0O (pv 0) T.c_Client T.m_Client_running_now (ok_Client_running_now T) (hr.mono (by decide)) pass0)) (blkOk_by (own := [("attempt", 1)]) (N := ["client", "attempt"]) (sc := defScope s_running_attempts) (by decide +kernel)) (fun _ _ _ _ _ => by exact (pg_name (i := 1) sc_running_attempts.nd rfl (Or.inl rfl))) (fun _ _ _ _ _ => by exact pts_nil) (fun _ _ _ _ _ => by exact (pe_fld (pv 1) rfl))) pa_nil)))), ?_⟩
  obtain ⟨_, rfl, L, c, rfl, R, W, kE, kR⟩ := h
  have zl : (Kp423.runningAttempts c).length ≤ 360 := Nat.le_trans (List.length_filter_le _ _) (by rw [List.length_range]; exact W.few)
  exact s_retL (el_count (K := K) (xs := natL (Kp423.runningAttempts c)) (el_lcAN (K := K) (Kp423.runningAttempts c) (fun j => V.ref (L.a j)) (fun (j : Nat) => V.int (j : Int)) (el_mt (f := runV) (ev_var rfl) R W rfl) (by omega) (fun _ => rfl) fun j hj H2 e2 => rA_number T (ev_var rfl) ((R.ex e2).a j (List.mem_range.mp (List.mem_filter.mp hj).1))) (by rw [List.length_map]; omega)) fun q H8 hq e8 h8 =>
    kR.tell (ans := Kp423.listResult (Kp423.runningAttempts c)) R (Ex.refl H) hq e8 (h8.trans (by rw [lr_is])) rfl
theorem sc_preview_choice : FnScope ["client", "key", "chosen"] ["client", "key"] (defScope s_preview_choice) := ⟨rfl, rfl, rfl, by decide +kernel, rfl, by decide +kernel, by decide +kernel⟩
theorem ok_preview_choice (T : Tx K mg) : Ok P w K mg base (L2.CX P w) 12 (He.ga K "preview_choice") ["client", "key"] (spO1 K Kp423.Call.previewChoice) := by
  obtain ⟨fd, F0⟩ := T.def_ 68 (d := d_preview_choice) rfl
  have F : FunD K "preview_choice" "preview_choice" (defArgs s_preview_choice) (defBody s_preview_choice) (defScope s_preview_choice) [] [] (He.ga K "preview_choice") fd := F0
  refine ⟨fd, F.ok sc_preview_choice sp2_len (fun cdv A outer s H vs Q E hr h => ?_), F.kp, F.bindsN fun _ _ _ _ _ _ us hl => match us, hl with | [_, _], _ => rfl⟩
  refine ⟨_, (pss_cons (ps_expr (pe_callO (ok_need T) (hr.mono (by decide)) rfl T.g_need (passes_call (takes_of rfl rfl rfl rfl) fun _ _ _ _ h => h) (pa_cons (pe_cmpR (op_neE hr.units0) (pe_meth0O (pv 0) T.c_Client T.m_Client_active (ok_Client_active T) (hr.mono (by decide)) pass0) (pe_lst pa_nil) (nomark _)) (pa_cons (pe_gi T.i_NOTHING) pa_nil)))) (pss_cons (ps_set (i := 2) sc_preview_choice.nd rfl (Or.inl rfl) (pe_callO (ok_choice T) (hr.mono (by decide)) rfl T.g_choice pass0 (pa_cons (pe_fld (pv 0) rfl) (pa_cons (pe_meth0O (pv 0) T.c_Client T.m_Client_general_candidates (ok_Client_general_candidates T) (hr.mono (by decide)) pass0) (pa_cons (pe_fld (pv 0) rfl) (pa_cons (pv 1) pa_nil)))))) (pss_one (ps_ret (pe_lst (pa_cons (pe_fld (pv 2) rfl) pa_nil)))))), ?_⟩
  obtain ⟨_, _, rfl, L, c, n, rfl, rfl, R, W, kE, kR⟩ := h
  refine q_need (K := K) (ev_emp (K := K) (neg := true) (el_mt (f := activeV) (ev_var rfl) R W rfl) fun _ _ => el_nil) (fun hb H1 e1 => ?_) fun hb => ?_
  · have ha : Kp423.activeBackends c ≠ [] := by
      unfold activeV at hb
      simpa using hb
    obtain ⟨b, hp, hbm⟩ := Hm.pick_some (bal := c.policy.balancer) (ptr := c.pointer) (key := n) (bk := Kp423.backendAt c) (Hm.gen_some ha)
    have hlt : ∀ n ∈ Hm.genB c, n < nb c := fun n hn => Hm.active_lt (Hm.gen_sub hn)
    have hz : (Hm.genB c).length ≤ 1000 := Nat.le_trans (Hm.gen_len c) (Nat.le_trans W.nb8 (by decide))
    have R1 := R.ex e1
    refine q_asgX (x_call4L (rL_balancer T (ev_var rfl) R1) (fun H2 e2 => el_mt (f := genV) (ev_var rfl) (R1.ex e2) W rfl) (fun H2 e2 => rL_pointer T (ev_var rfl) (R1.ex e2)) (fun H2 e2 => ev_var rfl) fun p H5 e5 h5 =>
      ⟨_, _, _, _, rfl, c.policy.balancer, p, Hm.genB c, L.b, Kp423.backendAt c, c.pointer, n, b, rfl, rfl, rfl, rfl, h5, (R1.ex e5).bas hlt, hz, hp, fun H6 e6 => ?_⟩)
    have R6 := R1.ex (e5.trans e6)
    refine s_retL (el_lst (ea_cons (rB_number T (ev_var rfl) (R6.b b (hlt b hbm))) ea_nil) (by show 1 ≤ 100000; decide)) fun q H8 hq e8 h8 => kR.tell (ans := Kp423.single (b : Int)) R (e1.trans (e5.trans e6)) hq e8 h8 ?_
    simp only [Kp423.step, Hm.choose_is, Hm.cand_nilT, hp]
    rfl
  · have ha : Kp423.activeBackends c = [] := by
      unfold activeV at hb
      simpa using hb
    refine kE.rf (Ex.refl H) ?_
    have hn2 : Hm.pick c.policy.balancer [] c.pointer n (Kp423.backendAt c) = none := by
      unfold Hm.pick
      split <;> rfl
    simp only [Kp423.step, Hm.choose_is, Hm.cand_nil ha, hn2]
    rfl
theorem sc_ranking : FnScope ["client", "key"] ["client", "key"] (defScope s_ranking) := ⟨rfl, rfl, rfl, by decide +kernel, rfl, by decide +kernel, by decide +kernel⟩
theorem ok_ranking (T : Tx K mg) : Ok P w K mg base (L2.CX P w) 12 (He.ga K "ranking") ["client", "key"] (spO1 K Kp423.Call.ranking) := by
  obtain ⟨fd, F0⟩ := T.def_ 69 (d := d_ranking) rfl
  have F : FunD K "ranking" "ranking" (defArgs s_ranking) (defBody s_ranking) (defScope s_ranking) [] [] (He.ga K "ranking") fd := F0
  refine ⟨fd, F.ok sc_ranking sp2_len (fun cdv A outer s H vs Q E hr h => ?_), F.kp, F.bindsN fun _ _ _ _ _ _ us hl => match us, hl with | [_, _], _ => rfl⟩
  refine ⟨_, (pss_one (ps_ret (pe_callO (ok_with_count T) (hr.mono (by decide)) rfl T.g_with_count pass0 (pa_cons (pe_callO (ok_ranked T) (hr.mono (by decide)) rfl T.g_ranked pass0 (pa_cons (pe_meth0O (pv 0) T.c_Client T.m_Client_active (ok_Client_active T) (hr.mono (by decide)) pass0) (pa_cons (pv 1) pa_nil))) pa_nil)))), ?_⟩
  obtain ⟨_, _, rfl, L, c, n, rfl, rfl, R, W, kE, kR⟩ := h
  obtain ⟨r1, r2⟩ := Hm.ranking_ok c n
  have zl : (Kp423.rankingOf c n).length ≤ 8 := by
    rw [r2.length_eq]
    exact Nat.le_trans (Hm.active_len c) W.nb8
  have za : (Kp423.activeBackends c).length ≤ 1000 := Nat.le_trans (Hm.active_len c) (Nat.le_trans W.nb8 (by decide))
  refine s_retL (el_count (K := K) (xs := natL (Kp423.rankingOf c n)) (el_call2L (el_mt (f := activeV) (ev_var rfl) R W rfl) (fun H1 e1 => ev_var rfl) fun p H1 e1 h1 => spL_of fun H2 e2 Q E r => ⟨_, _, rfl, p, Kp423.activeBackends c, L.b, Kp423.backendAt c, n, Kp423.rankingOf c n, rfl, rfl, sq_of (e2 _ _ h1), ((R.ex e1).ex e2).bas fun i hi => Hm.active_lt hi, za, r1, r2, r⟩) (by rw [List.length_map]; omega)) fun q H8 hq e8 h8 =>
    kR.tell (ans := Kp423.listResult (Kp423.rankingOf c n)) R (Ex.refl H) hq e8 (h8.trans (by rw [lr_is])) rfl
theorem sc_told_hash : FnScope ["client", "key", "number"] ["client", "key", "number"] (defScope s_told_hash) := ⟨rfl, rfl, rfl, by decide +kernel, rfl, by decide +kernel, by decide +kernel⟩
theorem ok_told_hash (T : Tx K mg) : Ok P w K mg base (L2.CX P w) 12 (He.ga K "told_hash") ["client", "key", "number"] (spO2 K Kp423.Call.hash) := by
  obtain ⟨fd, F0⟩ := T.def_ 70 (d := d_told_hash) rfl
  have F : FunD K "told_hash" "told_hash" (defArgs s_told_hash) (defBody s_told_hash) (defScope s_told_hash) [] [] (He.ga K "told_hash") fd := F0
  refine ⟨fd, F.ok sc_told_hash sp3_len (fun cdv A outer s H vs Q E hr h => ?_), F.kp, F.bindsN fun _ _ _ _ _ _ us hl => match us, hl with | [_, _, _], _ => rfl⟩
  refine ⟨_, (pss_cons (ps_expr (pe_callO (ok_need T) (hr.mono (by decide)) rfl T.g_need (passes_call (takes_of rfl rfl rfl rfl) fun _ _ _ _ h => h) (pa_cons (pe_cmpR op_le (pv 2) (pe_gi T.i_MOST_HASHED) (nomark _)) (pa_cons (pe_gi T.i_OUT_OF_LIMITS) pa_nil)))) (pss_one (ps_ret (pe_lst (pa_cons (pe_callO (ok_key_hash T) (hr.mono (by decide)) rfl T.g_key_hash pass0 (pa_cons (pv 1) (pa_cons (pv 2) pa_nil))) pa_nil))))), ?_⟩
  obtain ⟨_, _, _, rfl, L, c, n, m, rfl, rfl, rfl, R, W, kE, kR⟩ := h
  refine q_need (K := K) (ev_le (b := 255) (ev_var rfl) ev_c) (fun hb H1 e1 => ?_) fun hb => kE.rf (Ex.refl H) (by
    have : ¬ m ≤ 255 := of_decide_eq_false hb
    simp [Kp423.step, this])
  have hm : m ≤ 255 := of_decide_eq_true hb
  exact s_retL (el_lst (ea_cons (ev_call (ea_cons (ev_var rfl) (ea_cons (ev_var rfl) ea_nil)) (spV_of fun H2 e2 Q E r => ⟨_, _, rfl, n, m, rfl, rfl, r⟩)) ea_nil) (by show 1 ≤ 100000; decide)) fun q H8 hq e8 h8 => kR.tell (ans := Kp423.single (Kp423.hashOf n m : Int)) R e1 hq e8 h8 (by simp [Kp423.step, hm])
theorem sc_available_backends : FnScope ["client", "backend"] ["client"] (defScope s_available_backends) := ⟨rfl, rfl, rfl, by decide +kernel, rfl, by decide +kernel, by decide +kernel⟩
theorem ok_available_backends (T : Tx K mg) : Ok P w K mg base (L2.CX P w) 12 (He.ga K "available_backends") ["client"] (spO0 K Kp423.Call.availableBackends) := by
  obtain ⟨fd, F0⟩ := T.def_ 71 (d := d_available_backends) rfl
  have F : FunD K "available_backends" "available_backends" (defArgs s_available_backends) (defBody s_available_backends) (defScope s_available_backends) [] [] (He.ga K "available_backends") fd := F0
  refine ⟨fd, F.ok sc_available_backends sp1_len (fun cdv A outer s H vs Q E hr h => ?_), F.kp, F.bindsN fun _ _ _ _ _ _ us hl => match us, hl with | [_], _ => rfl⟩
  refine ⟨_, (pss_one (ps_ret (pe_callO (ok_with_count T) (hr.mono (by decide)) rfl T.g_with_count pass0 (pa_cons (pe_lc (own := [("backend", 1)]) (g := (gName 1)) (tt := tYes) (te := (tFld K (tVar 1) "number")) rfl sc_available_backends.nd (pi_list (pe_meth0O (pv 0) T.c_Client T.m_Client_available (ok_Client_available T) (hr.mono (by decide)) pass0)) (blkOk_by (own := [("backend", 1)]) (N := ["client", "backend"]) (sc := defScope s_available_backends) (by decide +kernel)) (fun _ _ _ _ _ => by exact (pg_name (i := 1) sc_available_backends.nd rfl (Or.inl rfl))) (fun _ _ _ _ _ => by exact pts_nil) (fun _ _ _ _ _ => by exact (pe_fld (pv 1) rfl))) pa_nil)))), ?_⟩
  obtain ⟨_, rfl, L, c, rfl, R, W, kE, kR⟩ := h
  have zl : (Kp423.availableBackends c).length ≤ 8 := Nat.le_trans (List.length_filter_le _ _) (Nat.le_trans (Hm.active_len c) W.nb8)
  exact s_retL (el_count (K := K) (xs := natL (Kp423.availableBackends c)) (el_lcAN (K := K) (Kp423.availableBackends c) (fun j => V.ref (L.b j)) (fun (j : Nat) => V.int (j : Int)) (el_mt (f := availV) (ev_var rfl) R W rfl) (by omega) (fun _ => rfl) fun j hj H2 e2 => rB_number T (ev_var rfl) ((R.ex e2).b j (Hm.active_lt (List.mem_filter.mp hj).1))) (by rw [List.length_map]; omega)) fun q H8 hq e8 h8 =>
    kR.tell (ans := Kp423.listResult (Kp423.availableBackends c)) R (Ex.refl H) hq e8 (h8.trans (by rw [lr_is])) rfl
theorem sc_told_bound : FnScope ["client", "retry"] ["client", "retry"] (defScope s_told_bound) := ⟨rfl, rfl, rfl, by decide +kernel, rfl, by decide +kernel, by decide +kernel⟩
theorem ok_told_bound (T : Tx K mg) : Ok P w K mg base (L2.CX P w) 12 (He.ga K "told_bound") ["client", "retry"] (spO1 K Kp423.Call.backoffBound) := by
  obtain ⟨fd, F0⟩ := T.def_ 72 (d := d_told_bound) rfl
  have F : FunD K "told_bound" "told_bound" (defArgs s_told_bound) (defBody s_told_bound) (defScope s_told_bound) [] [] (He.ga K "told_bound") fd := F0
  refine ⟨fd, F.ok sc_told_bound sp2_len (fun cdv A outer s H vs Q E hr h => ?_), F.kp, F.bindsN fun _ _ _ _ _ _ us hl => match us, hl with | [_, _], _ => rfl⟩
  refine ⟨_, (pss_cons (ps_expr (pe_callO (ok_need T) (hr.mono (by decide)) rfl T.g_need (passes_call (takes_of rfl rfl rfl rfl) fun _ _ _ _ h => h) (pa_cons (pe_callO (ok_is_within T) (hr.mono (by decide)) rfl T.g_is_within pass0 (pa_cons (pv 1) (pa_cons pe_int (pa_cons (pe_gi T.i_MOST_BOUNDS) pa_nil)))) (pa_cons (pe_gi T.i_OUT_OF_LIMITS) pa_nil)))) (pss_one (ps_ret (pe_lst (pa_cons (pe_methO (pe_fld (pv 0) rfl) T.c_Policy T.m_Policy_backoff_bound (ok_Policy_backoff_bound T) (hr.mono (by decide)) pass0 (pa_cons (pv 1) pa_nil)) pa_nil))))), ?_⟩
  obtain ⟨_, _, rfl, L, c, n, rfl, rfl, R, W, kE, kR⟩ := h
  refine q_need (K := K) (ev_range 1 10 (ev_var rfl) ev_c ev_c) (fun hb H1 e1 => ?_) fun hb => kE.rf (Ex.refl H) (by simp [Kp423.step, hb])
  have hn : 1 ≤ n ∧ n ≤ 10 := by
    unfold Kp423.inRange at hb
    rw [Bool.and_eq_true, decide_eq_true_eq, decide_eq_true_eq] at hb
    exact hb
  have R1 := R.ex e1
  obtain ⟨dx, hd⟩ := R1.po
  exact s_retL (el_lst (ea_cons (ev_meth (rL_policy T (ev_var rfl) R1) hd rfl (ea_cons (ev_var rfl) ea_nil) (spV_of fun H3 e3 Q E r => ⟨_, _, rfl, L.po, L.re, c.policy, n, rfl, rfl, (R1.ex e3).po, W.pol.mul, hn.1, by omega, r⟩)) ea_nil) (by show 1 ≤ 100000; decide)) fun q H8 hq e8 h8 => kR.tell (ans := Kp423.single (Kp423.backoffBound c.policy n : Int)) R e1 hq e8 h8 (by simp [Kp423.step, hb])
theorem sc_budget : FnScope ["client"] ["client"] (defScope s_budget) := ⟨rfl, rfl, rfl, by decide +kernel, rfl, by decide +kernel, by decide +kernel⟩
theorem ok_budget (T : Tx K mg) : Ok P w K mg base (L2.CX P w) 12 (He.ga K "budget") ["client"] (spO0 K Kp423.Call.budget) := by
  obtain ⟨fd, F0⟩ := T.def_ 73 (d := d_budget) rfl
  have F : FunD K "budget" "budget" (defArgs s_budget) (defBody s_budget) (defScope s_budget) [] [] (He.ga K "budget") fd := F0
  refine ⟨fd, F.ok sc_budget sp1_len (fun cdv A outer s H vs Q E hr h => ?_), F.kp, F.bindsN fun _ _ _ _ _ _ us hl => match us, hl with | [_], _ => rfl⟩
  refine ⟨_, (pss_one (ps_ret (pe_lst (pa_cons (pe_fld (pv 0) rfl) (pa_cons (pe_callTy call_int1 rfl T.b_int (by decide +kernel) (pa_cons (pe_meth0O (pv 0) T.c_Client T.m_Client_is_allowed (ok_Client_is_allowed T) (hr.mono (by decide)) pass0) pa_nil)) pa_nil))))), ?_⟩
  obtain ⟨_, rfl, L, c, rfl, R, W, kE, kR⟩ := h
  refine s_retL (el_lst (ea_cons (rL_tokens T (ev_var rfl) R) (ea_cons (ev_intB (k := Kp423.budgetAllows c) (ev_mt (f := alwV) (ev_var rfl) R W rfl)) ea_nil)) (by show 2 ≤ 100000; decide)) fun q H8 hq e8 h8 => kR.tell (ans := Kp423.natResult c.tokens [if Kp423.budgetAllows c then 1 else 0]) R (Ex.refl H) hq e8 (h8.trans ?_) rfl
  rw [b01]
  rfl
theorem sc_totals : FnScope ["client", "ended", "ok", "found", "call", "status"] ["client"] (defScope s_totals) := ⟨rfl, rfl, rfl, by decide +kernel, rfl, by decide +kernel, by decide +kernel⟩
theorem ok_totals (T : Tx K mg) : Ok P w K mg base (L2.CX P w) 12 (He.ga K "totals") ["client"] (spO0 K Kp423.Call.totals) := by
  obtain ⟨fd, F0⟩ := T.def_ 74 (d := d_totals) rfl
  have F : FunD K "totals" "totals" (defArgs s_totals) (defBody s_totals) (defScope s_totals) [] [] (He.ga K "totals") fd := F0
  refine ⟨fd, F.ok sc_totals sp1_len (fun cdv A outer s H vs Q E hr h => ?_), F.kp, F.bindsN fun _ _ _ _ _ _ us hl => match us, hl with | [_], _ => rfl⟩
  refine ⟨_, (pss_cons (ps_setLc (i := 1) (own := [("call", 4)]) (g := (gName 4)) (tt := (tNot (tB (tMeth (He.ga K "Call") "is_open" (spIsOpen K) [] E0 (tVar 4) tNil)))) (te := (tFld K (tVar 4) "final")) rfl sc_totals.nd rfl rfl (sw_true rfl rfl rfl (by decide +kernel)) (pi_list (pe_fld (pv 0) rfl)) (blkOk_by (own := [("call", 4)]) (N := ["client", "ended", "ok", "found", "call", "status"]) (sc := defScope s_totals) (by decide +kernel)) (fun _ _ _ _ _ => by exact (pg_name (i := 4) sc_totals.nd rfl (Or.inl rfl))) (fun _ _ _ _ _ => by exact (pts_one (pt_not (pt_val (pe_meth0O (pv 4) T.c_Call T.m_Call_is_open (ok_Call_is_open T) (hr.mono (by decide)) pass0))))) (fun _ _ _ _ _ => by exact (pe_fld (pv 4) rfl))) (pss_cons (ps_set (i := 2) sc_totals.nd rfl (Or.inl rfl) (pe_callB call_len_seq rfl T.b_len (by decide +kernel) (pa_cons (pe_lc (own := [("status", 5)]) (g := (gName 5)) (tt := (tTest (tOp rEq (tVar 5) (tC (.int 0))))) (te := (tVar 5)) rfl sc_totals.nd (pi_list (pv 1)) (blkOk_by (own := [("status", 5)]) (N := ["client", "ended", "ok", "found", "call", "status"]) (sc := defScope s_totals) (by decide +kernel)) (fun _ _ _ _ _ => by exact (pg_name (i := 5) sc_totals.nd rfl (Or.inl rfl))) (fun _ _ _ _ _ => by exact (pts_one (pt_cmpR op_eq (pv 5) pe_int (nomark _)))) (fun _ _ _ _ _ => by exact (pv 5))) pa_nil))) (pss_cons (ps_set (i := 3) sc_totals.nd rfl (Or.inl rfl) (pe_lst (pa_cons (pe_callB call_len_seq rfl T.b_len (by decide +kernel) (pa_cons (pe_fld (pv 0) rfl) pa_nil)) (pa_cons (pv 2) (pa_cons (pe_op op_sub (pe_callB call_len_seq rfl T.b_len (by decide +kernel) (pa_cons (pv 1) pa_nil)) (pv 2)) (pa_cons (pe_callB call_len_seq rfl T.b_len (by decide +kernel) (pa_cons (pe_fld (pv 0) rfl) pa_nil)) pa_nil)))))) (pss_one (ps_ret (pe_op op_cat (pv 3) (pe_lst (pa_cons (pe_fld (pv 0) rfl) (pa_cons (pe_fld (pv 0) rfl) (pa_cons (pe_fld (pv 0) rfl) pa_nil)))))))))), ?_⟩
  obtain ⟨_, rfl, L, c, rfl, R, W, kE, kR⟩ := h
  have hz : nc c ≤ 40000 := Nat.le_trans W.nc60 (by decide)
  have ez : (Hm.endedL c).length ≤ 40000 := Nat.le_trans (List.length_filter_le _ _) (by rw [List.length_range]; exact hz)
  refine q_asgL (xs := (Hm.endedL c).map fun i => optV (Kp423.callAt c i).status) (el_lcM (K := K) (List.range (nc c)) (fun i => V.ref (L.k i)) (fun i => !Kp423.isOpen (Kp423.callAt c i)) (fun i => optV (Kp423.callAt c i).status) (rL_calls T (ev_var rfl) R) (sq_of R.lc) (by rw [List.length_range]; exact hz) (fun _ => rfl) (fun i hi H1 e1 => et_not (et_B (ev_open (ev_var rfl) ((R.ex e1).k i (rng hi))))) fun i hi H1 e1 _ => rC_final T (ev_var rfl) ((R.ex e1).k i (rng hi))) fun p H1 hp e1 h1 => ?_
  have sc : ∀ i ∈ Hm.endedL c, scal (optV (Kp423.callAt c i).status) (.int 0) = true ∧ decide (optV (Kp423.callAt c i).status = V.int 0) = ((Kp423.callAt c i).status == some 0) := fun i hi => by
    have ho := (List.mem_filter.mp hi).2
    unfold Kp423.isOpen at ho
    cases hs : (Kp423.callAt c i).status with
    | none => rw [hs] at ho; cases ho
    | some s =>
      refine ⟨rfl, ?_⟩
      show decide (V.int (s : Int) = V.int ((0 : Nat) : Int)) = _
      rw [eq_cast, Bool.eq_iff_iff, decide_eq_true_eq, beq_iff_eq]
      exact ⟨fun z => by rw [z], fun z => by injection z⟩
  have l1 := ev_lenLN (K := K) (el_lcM (K := K) (tt := tTest (tOp rEq (tVar 5) (tC (.int 0)))) (te := tVar 5) (tl := tVar 1) (j := 5) (vs := [5]) (σ := [some (V.ref L.cl), some (V.ref p), none, none, none, none]) (H := H1) (Hm.endedL c) (fun i => optV (Kp423.callAt c i).status) (fun i => (Kp423.callAt c i).status == some 0) (fun i => optV (Kp423.callAt c i).status) (ev_var rfl) (sq_of h1) ez (fun _ => rfl) (fun i hi H2 e2 => et_is (et_test (ev_op (ev_var rfl) ev_c (rv_eq (sc i hi).1))) (sc i hi).2) fun i hi H2 e2 _ => ev_var rfl)
  rw [List.length_map] at l1
  refine q_asg (v := .int ((Hm.okL c).length : Int)) l1 fun H2 e2 => ?_
  have R2 := (R.ex e1).ex e2
  have l2 := ev_lenL (K := K) (tl := tVar 1) (σ := [some (V.ref L.cl), some (V.ref p), some (V.int ((Hm.okL c).length : Int)), none, none, none]) (H := H2) (ev_var rfl) (sq_of (e2 _ _ h1))
  rw [List.length_map] at l2
  refine q_asgL (xs := natL [nc c, (Hm.okL c).length, (Hm.endedL c).length - (Hm.okL c).length, na c]) (el_lst (ea_cons (ev_nc T R2 (ev_var rfl)) (ea_cons (ev_var rfl) (ea_cons (ev_is (ev_op l2 (ev_var rfl) rv_I0) (congrArg V.int (by have := Hm.ok_le c; omega))) (ea_cons (ev_na T R2 (ev_var rfl)) ea_nil)))) (by show 4 ≤ 100000; decide)) fun p3 H3 hp3 e3 h3 => ?_
  have R3 := R2.ex e3
  refine s_retL (el_catV (K := K) (ev_var rfl) h3 (fun H4 e4 => el_lst (ea_cons (rL_retryCount T (ev_var rfl) (R3.ex e4)) (ea_cons (rL_hedgeCount T (ev_var rfl) (R3.ex e4)) (ea_cons (rL_transparentCount T (ev_var rfl) (R3.ex e4)) ea_nil))) (by show 3 ≤ 100000; decide)) (by show 4 + 3 ≤ 100000; decide)) fun q H8 hq e8 h8 =>
    kR.tell (ans := Kp423.natResult c.calls.length [(c.calls.countP fun x => x.status == some 0), (c.calls.countP fun x => x.status.isSome && x.status != some 0), c.attempts.length, c.retryCount, c.hedgeCount, c.transparentCount]) R (e1.trans (e2.trans e3)) hq e8 (h8.trans ?_) rfl
  rw [← Hm.ok_is, ← Hm.bad_is]
  rfl
theorem sc_told_state : FnScope ["client", "found"] ["client"] (defScope s_told_state) := ⟨rfl, rfl, rfl, by decide +kernel, rfl, by decide +kernel, by decide +kernel⟩
theorem ok_told_state (T : Tx K mg) : Ok P w K mg base (L2.CX P w) 12 (He.ga K "told_state") ["client"] (spO0 K Kp423.Call.status) := by
  obtain ⟨fd, F0⟩ := T.def_ 75 (d := d_told_state) rfl
  have F : FunD K "told_state" "told_state" (defArgs s_told_state) (defBody s_told_state) (defScope s_told_state) [] [] (He.ga K "told_state") fd := F0
  refine ⟨fd, F.ok sc_told_state sp1_len (fun cdv A outer s H vs Q E hr h => ?_), F.kp, F.bindsN fun _ _ _ _ _ _ us hl => match us, hl with | [_], _ => rfl⟩
  refine ⟨_, (pss_cons (ps_set (i := 1) sc_told_state.nd rfl (Or.inl rfl) (pe_lst (pa_cons (pe_fld (pv 0) rfl) (pa_cons (pe_fld (pv 0) rfl) (pa_cons (pe_fld (pv 0) rfl) (pa_cons (pe_callB call_len_seq rfl T.b_len (by decide +kernel) (pa_cons (pe_fld (pv 0) rfl) pa_nil)) (pa_cons (pe_callB call_len_seq rfl T.b_len (by decide +kernel) (pa_cons (pe_meth0O (pv 0) T.c_Client T.m_Client_active (ok_Client_active T) (hr.mono (by decide)) pass0) pa_nil)) pa_nil))))))) (pss_one (ps_ret (pe_op op_cat (pv 1) (pe_lst (pa_cons (pe_callB call_len_seq rfl T.b_len (by decide +kernel) (pa_cons (pe_meth0O (pv 0) T.c_Client T.m_Client_running_now (ok_Client_running_now T) (hr.mono (by decide)) pass0) pa_nil)) pa_nil)))))), ?_⟩
  obtain ⟨_, rfl, L, c, rfl, R, W, kE, kR⟩ := h
  have l1 := ev_lenLN (K := K) (el_mt (E := E0) (f := activeV) (m := "active") (ta := tVar 0) (σ := [some (V.ref L.cl), none]) (ev_var rfl) R W rfl)
  rw [List.length_map] at l1
  refine q_asgL (xs := natL [c.now, c.seed, c.pointer, nb c, (Kp423.activeBackends c).length]) (el_lst (ea_cons (rL_now T (ev_var rfl) R) (ea_cons (rL_seed T (ev_var rfl) R) (ea_cons (rL_pointer T (ev_var rfl) R) (ea_cons (ev_nb T R (ev_var rfl)) (ea_cons l1 ea_nil))))) (by show 5 ≤ 100000; decide)) fun p H1 hp e1 h1 => ?_
  refine s_retL (el_catV (K := K) (ys := natL [(Kp423.runningAttempts c).length]) (ev_var rfl) h1 (fun H4 e4 => ?_) (by show 5 + 1 ≤ 100000; decide)) fun q H8 hq e8 h8 =>
    kR.tell (ans := Kp423.natResult c.now [c.seed, c.pointer, c.backends.length, (Kp423.activeBackends c).length, (Kp423.runningAttempts c).length]) R e1 hq e8 h8 rfl
  have l4 := ev_lenLN (K := K) (el_mt (E := E0) (f := runV) (m := "running_now") (ta := tVar 0) (σ := [some (V.ref L.cl), some (V.ref p)]) (ev_var rfl) ((R.ex e1).ex e4) W rfl)
  rw [List.length_map] at l4
  exact el_lst (ea_cons l4 ea_nil) (by show 1 ≤ 100000; decide)
end
end Hc
namespace Hc
open PySem PySem.Spec PyProof.Rows L2 Evl
open Hm (attsOf nowC withC withB Shape N0 N1 N2 N3)
section
variable {P : Program} {w : World} {K : PySem.W.Frag} {mg : Str → Option Value} {base : Heap}
section
variable {H H1 H2 : Hp} {σ : L2.St} {tl ta tb tc : TE} {L : Lay} {c : Kp423.Client} {D : Ends} {tz : TS}
theorem q_par3L {i j l : Nat} {x y : V} {xs : List V} (ha : Ev ta σ H x) (hb : Ev tb σ H y) (hc : EvL tc σ H xs) (k : ∀ p H1, H p = none → Ex H H1 → H1 p = some (.lst xs) → tz D (((σ.set i (some x)).set j (some y)).set l (some (.ref p))) H1) : tSeq (tPar3 i j l (tCons ta (tCons tb (tCons tc tNil)))) tz D σ H :=
  ha H (Ex.refl H) _ fun H1 e1 => hb H1 e1 _ fun H2 e2 => hc H2 (e1.trans e2) _ fun p H3 hp e3 h3 => ⟨x, y, .ref p, rfl, k p H3 (fresh_back (e1.trans e2) hp) ((e1.trans e2).trans e3) h3⟩
theorem x_make3 {C : Addr} {sp : Sp} {E : XK} {x y : V} {Q : VK} (ha : Ev ta σ H x) (hb : ∀ H1, Ex H H1 → Ev tb σ H1 y) (hc : ∀ H1, Ex H H1 → tc σ H1 fun z H2 => ∀ a dx, H2 a = none → H2 dx = none → dx ≠ a → sp (.ref a :: ([x, y, z] ++ [])) (upd (upd H2 dx (.own a)) a (.ins C dx [])) (fun v H3 => v = .non ∧ Q (.ref a) H3) E) : tMake C sp [] E (tCons ta (tCons tb (tCons tc tNil))) σ H Q :=
  ha H (Ex.refl H) _ fun H1 e1 => hb H1 e1 H1 (Ex.refl H1) _ fun H2 e2 => hc H2 (e1.trans e2)
theorem Rep.off {p : Addr} (R : Rep K H L c) (nt : ¬ Tr L c p) (f : At1 H p H1) : Rep K H1 L c := by
  have fl : ∀ {a : Addr} {xs : List V}, H a = some (.lst xs) → a ≠ p → H1 a = some (.lst xs) := fun h n => f _ _ h n
  exact ⟨R.cl.keep f fun z => nt (.inl z.symm), R.po.keep f fun z => nt (.inr (.inl z.symm)), fl R.re fun z => nt (.inr (.inr (.inl z.symm))), fl R.lb fun z => nt (.inr (.inr (.inr (.inl z.symm)))), fl R.lc fun z => nt (.inr (.inr (.inr (.inr (.inl z.symm))))), fl R.la fun z => nt (.inr (.inr (.inr (.inr (.inr (.inl z.symm)))))),
    fun i hi => (R.b i hi).keep f fun z => nt (.inr (.inr (.inr (.inr (.inr (.inr (.inl ⟨i, hi, z.symm⟩))))))), fun i hi => (R.k i hi).keep f fun z => nt (.inr (.inr (.inr (.inr (.inr (.inr (.inr (.inl ⟨i, hi, .inl z.symm⟩)))))))), fun i hi => fl (R.kl i hi) fun z => nt (.inr (.inr (.inr (.inr (.inr (.inr (.inr (.inl ⟨i, hi, .inr z.symm⟩)))))))),
    fun j hj => (R.a j hj).keep f fun z => nt (.inr (.inr (.inr (.inr (.inr (.inr (.inr (.inr ⟨j, hj, z.symm⟩)))))))), R.s1, R.s2, R.s3⟩
theorem DueR.go {x : Kp423.Call} {Q : VK} (k : DueR K H L c x Q) (R : Rep K H L c) (e : Ex H H1) : DueR K H1 L c x Q := fun c' ans H' L' p hs G hf hl => k c' ans H' L' p hs (Go.after e R G) (fun o q n => hf o (e _ _ q) n) hl
theorem DueE.go {x : Kp423.Call} {E : XK} (k : DueE K H c x E) (e : Ex H H1) : DueE K H1 c x E := fun i hs => (k i hs).go e
end
/-! ### a new client -/
def spNew (K : PySem.W.Frag) : Sp := sp1 fun x H Q E => ∃ (p : Addr) (a b : Nat) (l : List Nat), x = .ref p ∧ H p = some (.lst (natL (a :: b :: l))) ∧ l.length ≤ 30000 ∧ ((Kp423.parsePolicy b l = none ∨ 2147483647 < a) → Rf K H E (-22)) ∧
  ∀ pol, Kp423.parsePolicy b l = some pol → ¬ 2147483647 < a → ∀ H' L', Rep K H' L' (Hm.client0 pol a) → Ex H H' → (∀ q o, H q = some o → ¬ Tr L' (Hm.client0 pol a) q) → Q (.ref L'.cl) H'
theorem nat_int (l : List Nat) : natL l = (Hm.asInts l).map V.int := by
  unfold natL Hm.asInts
  rw [List.map_map]
  rfl
theorem sc_new_client : FnScope ["numbers", "seed", "balancer", "parameters"] ["numbers"] (defScope s_new_client) := ⟨rfl, rfl, rfl, by decide +kernel, rfl, by decide +kernel, by decide +kernel⟩
theorem ok_new_client (T : Tx K mg) : Ok P w K mg base (L2.CX P w) 12 (He.ga K "new_client") ["numbers"] (spNew K) := by
  obtain ⟨fd, F0⟩ := T.def_ 76 (d := d_new_client) rfl
  have F : FunD K "new_client" "new_client" (defArgs s_new_client) (defBody s_new_client) (defScope s_new_client) [] [] (He.ga K "new_client") fd := F0
  refine ⟨fd, F.ok sc_new_client sp1_len (fun cdv A outer s H vs Q E hr h => ?_), F.kp, F.bindsN fun _ _ _ _ _ _ us hl => match us, hl with | [_], _ => rfl⟩
  refine ⟨_, (pss_cons (ps_par3 (i := 1) (j := 2) (l := 3) rfl sc_new_client.nd rfl rfl rfl (by decide) (by decide) (by decide) rfl rfl rfl (pa_cons (pe_ix ix_list (pv 0) pe_int (fun _ _ => rfl)) (pa_cons (pe_ix ix_list (pv 0) pe_int (fun _ _ => rfl)) (pa_cons (pe_slice sl_list (pv 0) (po_some pe_int) po_none) pa_nil))) (by rfl)) (pss_cons (ps_expr (pe_callO (ok_need T) (hr.mono (by decide)) rfl T.g_need (passes_call (takes_of rfl rfl rfl rfl) fun _ _ _ _ h => h) (pa_cons (pe_and (pe_cmpR op_le (pv 1) (pe_gi T.i_GREATEST_SEED) (nomark _)) (pe_one (pe_callO (ok_is_within T) (hr.mono (by decide)) rfl T.g_is_within pass0 (pa_cons (pv 2) (pa_cons pe_int (pa_cons (pe_gi T.i_GREATEST_BALANCER) pa_nil)))))) (pa_cons (pe_gi T.i_OUT_OF_LIMITS) pa_nil)))) (pss_cons (ps_expr (pe_callO (ok_need T) (hr.mono (by decide)) rfl T.g_need (passes_call (takes_of rfl rfl rfl rfl) fun _ _ _ _ h => h) (pa_cons (pe_callO (ok_are_parameters T) (hr.mono (by decide)) rfl T.g_are_parameters pass0 (pa_cons (pv 3) pa_nil)) (pa_cons (pe_gi T.i_OUT_OF_LIMITS) pa_nil)))) (pss_one (ps_ret (pe_makeO T.mk_Client (ok_Client_init T) (hr.mono (by decide)) rfl T.g_Client pass0 (pa_cons (pv 1) (pa_cons (pv 2) (pa_cons (pe_makeO T.mk_Policy (ok_Policy_init T) (hr.mono (by decide)) rfl T.g_Policy pass0 (pa_cons (pv 3) pa_nil)) pa_nil))))))))), ?_⟩
  obtain ⟨_, rfl, p, a, b, l, rfl, hp, hz, kE, k⟩ := h
  have hs := sq_of (K := K) hp
  have es := el_sl (K := K) (σ := [some (V.ref p), none, none, none]) (H := H) (ev_var (i := 0) rfl) (eo_some (ev_c (v := .int ((2 : Nat) : Int)))) eo_none hs
  rw [cut_from (by simp)] at es
  refine q_par3L (ev_op (ev_var rfl) ev_c (rv_ixL hs (atI_nat (j := 0) rfl))) (ev_op (ev_var rfl) ev_c (rv_ixL hs (atI_nat (j := 1) rfl))) es fun q H1 hq e1 h1 => ?_
  have h1' : H1 q = some (.lst (natL l)) := h1
  refine q_need (K := K) (ev_andV (ev_le (a := a) (b := 2147483647) (ev_var rfl) ev_c) fun _ => ev_range (x := b) 0 3 (ev_var rfl) ev_c ev_c) (fun hb H2 e2 => ?_) fun hb => ?_
  · rw [Bool.and_eq_true, decide_eq_true_eq] at hb
    have hb3 : b ≤ 3 := by
      have := hb.2
      unfold Kp423.inRange at this
      rw [Bool.and_eq_true, decide_eq_true_eq, decide_eq_true_eq] at this
      exact this.2
    have h2 : H2 q = some (.lst ((Hm.asInts l).map V.int)) := by
      rw [← nat_int]
      exact e2 _ _ h1'
    refine q_need (K := K) (b := parOk (Hm.asInts l)) (ev_call (ea_cons (ev_var rfl) ea_nil) (spV_of fun H3 e3 Q E r => ⟨_, rfl, q, Hm.asInts l, rfl, sq_of (e3 _ _ h2), by rw [List.length_map]; exact hz, r⟩)) (fun hb2 H3 e3 => ?_) fun hb2 => ?_
    · obtain ⟨pol, hp1, hp2, hp3⟩ := Hm.parse_yes hb3 hb2
      have h3 : H3 q = some (.lst (natL (polL pol))) := by
        rw [show polL pol = l from hp3, nat_int]
        exact e3 _ _ h2
      have e03 := e1.trans (e2.trans e3)
      refine s_retX (x_make3 (x := .int (a : Int)) (y := .int (pol.balancer : Int)) (ev_var rfl) (fun H4 e4 => by rw [hp2]; exact ev_var rfl) fun H4 e4 => x_make (vs := [.ref q]) (ea_cons (ev_var rfl) ea_nil) fun H5 po dpo e5 hpo hdpo ndpo => ⟨_, _, rfl, po, dpo, q, pol, rfl, rfl, upd_same, ?_, ?_, ?_, fun H6 re hre hPo hRe f6 => ⟨rfl, fun x dx hx hdx ndx => ⟨_, _, _, _, rfl, x, dx, po, re, a, pol, rfl, rfl, rfl, rfl, upd_same, ?_, ?_, ?_, fun H7 L' l1 l2 l3 l4 l5 l6 R7 f7 => ⟨rfl, ?_⟩⟩⟩⟩)
      · have h5 : H5 q = some (.lst (natL (polL pol))) := e5 _ _ (e4 _ _ h3)
        refine sq_of ?_
        rw [upd_ne (ne_of_none h5 hpo), upd_ne (ne_of_none h5 hdpo)]
        exact h5
      · exact ne_of_none (e5 _ _ (e4 _ _ h3)) hpo
      · exact Nat.le_trans (Hm.pol_ok hp1).ret (by decide)
      · obtain ⟨d, y⟩ := hPo
        exact ⟨d, by rw [upd_ne (ne_of_none y hx), upd_ne (ne_of_none y hdx)]; exact y⟩
      · rw [upd_ne (ne_of_none hRe hx), upd_ne (ne_of_none hRe hdx)]
        exact hRe
      · obtain ⟨d, y⟩ := hPo
        exact ne_of_none y hx
      · have e56 : Ex H5 H6 := Ex.made hpo hdpo f6
        have e67 : Ex H6 H7 := Ex.made hx hdx f7
        have eall : Ex H H7 := (e03.trans (e4.trans (e5.trans e56))).trans e67
        rw [← l1]
        refine k pol hp1 (by have := hb.1; omega) H7 L' R7 eall fun y o hy ht => ?_
        have y6 := (e03.trans (e4.trans (e5.trans e56))) _ _ hy
        have y5 := (e03.trans (e4.trans e5)) _ _ hy
        have up : ∀ {z : Addr}, upd (upd H6 dx (.own x)) x (.ins (He.ga K "Client") dx []) z = none → H6 z = none := fun {z} q => by
          by_cases n1 : z = x
          · rw [n1, upd_same] at q; cases q
          · rw [upd_ne n1] at q
            by_cases n2 : z = dx
            · rw [n2, upd_same] at q; cases q
            · rw [upd_ne n2] at q
              exact q
        have up2 : ∀ {z : Addr}, upd (upd H5 dpo (.own po)) po (.ins (He.ga K "Policy") dpo []) z = none → H5 z = none := fun {z} q => by
          by_cases n1 : z = po
          · rw [n1, upd_same] at q; cases q
          · rw [upd_ne n1] at q
            by_cases n2 : z = dpo
            · rw [n2, upd_same] at q; cases q
            · rw [upd_ne n2] at q
              exact q
        rcases ht with z | z | z | z | z | z | ⟨i, hi, z⟩ | ⟨i, hi, z⟩ | ⟨j, hj, z⟩
        · rw [z, l1, hx] at y6; cases y6
        · rw [z, l2, hpo] at y5; cases y5
        · rw [z, l3, up2 hre] at y5; cases y5
        · rw [z, up l4] at y6; cases y6
        · rw [z, up l5] at y6; cases y6
        · rw [z, up l6] at y6; cases y6
        · exact Nat.not_lt_zero _ hi
        · exact Nat.not_lt_zero _ hi
        · exact Nat.not_lt_zero _ hj
    · refine (kE (Or.inl ?_)).go (e1.trans e2)
      cases hpp : Kp423.parsePolicy b l with
      | none => rfl
      | some pol =>
        have := (Hm.parse_back hpp).2
        have hb4 : Hm.parOk (Hm.asInts l) = false := hb2
        rw [this] at hb4
        cases hb4
  · refine (kE ?_).go e1
    by_cases ha : 2147483647 < a
    · exact Or.inr ha
    · refine Or.inl ?_
      cases hpp : Kp423.parsePolicy b l with
      | none => rfl
      | some pol =>
        have h3 := (Hm.parse_back hpp).1
        have : (decide (a ≤ 2147483647) && Kp423.inRange 0 3 b) = true := by
          unfold Kp423.inRange
          simp
          omega
        rw [this] at hb
        cases hb
/-! ### the operation by its place -/
inductive OpF (K : PySem.W.Frag) : Str → Sp → Prop
  | a0 : OpF K "next_timer" (spO0 K .nextTimer)
  | b0 : OpF K "running_attempts" (spO0 K .runningAttempts)
  | c0 : OpF K "available_backends" (spO0 K .availableBackends)
  | d0 : OpF K "budget" (spO0 K .budget)
  | e0 : OpF K "totals" (spO0 K .totals)
  | f0 : OpF K "told_state" (spO0 K .status)
  | a1 : OpF K "add_backend" (spO1 K .addBackend)
  | b1 : OpF K "remove_backend" (spO1 K .removeBackend)
  | c1 : OpF K "cancel" (spO1 K .cancel)
  | d1 : OpF K "advance" (spO1 K .advance)
  | e1 : OpF K "call_info" (spO1 K .callInfo)
  | f1 : OpF K "attempt_info" (spO1 K .attemptInfo)
  | g1 : OpF K "call_attempts" (spO1 K .callAttempts)
  | h1 : OpF K "backend_info" (spO1 K .backendInfo)
  | i1 : OpF K "preview_choice" (spO1 K .previewChoice)
  | j1 : OpF K "ranking" (spO1 K .ranking)
  | k1 : OpF K "told_bound" (spO1 K .backoffBound)
  | a2 : OpF K "set_weight" (spO2 K .setWeight)
  | b2 : OpF K "told_hash" (spO2 K .hash)
  | a3 : OpF K "start_call" (spO3 K .startCall)
  | b3 : OpF K "complete" (spO3 K .complete)
def OpS (K : PySem.W.Frag) (f : Addr) (sp : Sp) : Prop := ∃ x, f = He.ga K x ∧ OpF K x sp
theorem held_all (T : Tx K mg) (f : Addr) (sp : Sp) (h : OpS K f sp) : ∃ ps, Ok P w K mg base (L2.CX P w) 12 f ps sp := by
  obtain ⟨x, rfl, h⟩ := h
  cases h
  · exact ⟨_, ok_next_timer T⟩
  · exact ⟨_, ok_running_attempts T⟩
  · exact ⟨_, ok_available_backends T⟩
  · exact ⟨_, ok_budget T⟩
  · exact ⟨_, ok_totals T⟩
  · exact ⟨_, ok_told_state T⟩
  · exact ⟨_, ok_add_backend T⟩
  · exact ⟨_, ok_remove_backend T⟩
  · exact ⟨_, ok_cancel T⟩
  · exact ⟨_, ok_advance T⟩
  · exact ⟨_, ok_call_info T⟩
  · exact ⟨_, ok_attempt_info T⟩
  · exact ⟨_, ok_call_attempts T⟩
  · exact ⟨_, ok_backend_info T⟩
  · exact ⟨_, ok_preview_choice T⟩
  · exact ⟨_, ok_ranking T⟩
  · exact ⟨_, ok_told_bound T⟩
  · exact ⟨_, ok_set_weight T⟩
  · exact ⟨_, ok_told_hash T⟩
  · exact ⟨_, ok_start_call T⟩
  · exact ⟨_, ok_complete T⟩
theorem n0_at {z : Int} {x : Kp423.Call} (h : N0 z x) : z ≠ 9 ∧ ∃ f, dl_WITH_NONE.lookup z = some f ∧ OpF K f (spO0 K x) := by
  cases h
  · exact ⟨by decide, _, rfl, .a0⟩
  · exact ⟨by decide, _, rfl, .b0⟩
  · exact ⟨by decide, _, rfl, .c0⟩
  · exact ⟨by decide, _, rfl, .d0⟩
  · exact ⟨by decide, _, rfl, .e0⟩
  · exact ⟨by decide, _, rfl, .f0⟩
theorem n1_at {z : Int} {g : Nat → Kp423.Call} (h : N1 z g) : z ≠ 9 ∧ dl_WITH_NONE.lookup z = none ∧ ∃ f, dl_WITH_ONE.lookup z = some f ∧ OpF K f (spO1 K g) := by
  cases h
  · exact ⟨by decide, rfl, _, rfl, .a1⟩
  · exact ⟨by decide, rfl, _, rfl, .b1⟩
  · exact ⟨by decide, rfl, _, rfl, .c1⟩
  · exact ⟨by decide, rfl, _, rfl, .d1⟩
  · exact ⟨by decide, rfl, _, rfl, .e1⟩
  · exact ⟨by decide, rfl, _, rfl, .f1⟩
  · exact ⟨by decide, rfl, _, rfl, .g1⟩
  · exact ⟨by decide, rfl, _, rfl, .h1⟩
  · exact ⟨by decide, rfl, _, rfl, .i1⟩
  · exact ⟨by decide, rfl, _, rfl, .j1⟩
  · exact ⟨by decide, rfl, _, rfl, .k1⟩
theorem n2_at {z : Int} {g : Nat → Nat → Kp423.Call} (h : N2 z g) : z ≠ 9 ∧ dl_WITH_NONE.lookup z = none ∧ dl_WITH_ONE.lookup z = none ∧ ∃ f, dl_WITH_TWO.lookup z = some f ∧ OpF K f (spO2 K g) := by
  cases h
  · exact ⟨by decide, rfl, rfl, _, rfl, .a2⟩
  · exact ⟨by decide, rfl, rfl, _, rfl, .b2⟩
theorem n3_at {z : Int} {g : Nat → Nat → Nat → Kp423.Call} (h : N3 z g) : z ≠ 9 ∧ dl_WITH_NONE.lookup z = none ∧ dl_WITH_ONE.lookup z = none ∧ dl_WITH_TWO.lookup z = none ∧ ∃ f, dl_WITH_THREE.lookup z = some f ∧ OpF K f (spO3 K g) := by
  cases h
  · exact ⟨by decide, rfl, rfl, rfl, _, rfl, .a3⟩
  · exact ⟨by decide, rfl, rfl, rfl, _, rfl, .b3⟩
def spOperated (K : PySem.W.Frag) : Sp := sp3 fun x y z H Q E => ∃ (L : Lay) (c : Kp423.Client) (zz : Int) (p : Addr) (ns : List Nat) (xx : Kp423.Call), x = .ref L.cl ∧ y = .int zz ∧ z = .ref p ∧ Rep K H L c ∧ Hm.Wf c ∧ Shape zz ns xx ∧ zz ≠ 0 ∧ H p = some (.lst (natL ns)) ∧ ns.length ≤ 40000 ∧ ¬ Tr L c p ∧ DueE K H c xx E ∧ DueR K H L c xx Q
section
variable {H : Hp} {σ : L2.St} {ta tb : TE}
theorem et_eqZ {a b : Int} (ha : Ev ta σ H (.int a)) (hb : Ev tb σ H (.int b)) : EvT (tTest (tOp rEq ta tb)) σ H (decide (a = b)) := et_is (et_test (ev_op ha hb (rv_eq rfl))) (eq_int a b)
theorem et_inW {z : Int} {d : Addr} {l : List (Int × Str)} (hz : Ev ta σ H (.int z)) (D : DicAt K d l) : EvT (tTest (tOp (rInW K) ta (tC (.ref d)))) σ H (l.lookup z).isSome := et_test (ev_op hz ev_c (rv_val fun H1 e1 Q q => ⟨z, d, l, rfl, rfl, D, q⟩))
theorem ev_ixW {z : Int} {d : Addr} {l : List (Int × Str)} {f : Str} (hz : Ev ta σ H (.int z)) (D : DicAt K d l) (hf : l.lookup z = some f) : Ev (tOp (rIxW K) (tC (.ref d)) ta) σ H (.ref (He.ga K f)) := ev_op ev_c hz (rv_val fun H1 e1 Q q => ⟨z, d, l, f, rfl, rfl, D, hf, q⟩)
end
theorem sc_operated : FnScope ["client", "place", "numbers", "action"] ["client", "place", "numbers"] (defScope s_operated) := ⟨rfl, rfl, rfl, by decide +kernel, rfl, by decide +kernel, by decide +kernel⟩
theorem ok_operated (T : Tx K mg) : Ok P w K mg base (L2.CX P w) 13 (He.ga K "operated") ["client", "place", "numbers"] (spOperated K) := by
  obtain ⟨fd, F0⟩ := T.def_ 77 (d := d_operated) rfl
  have F : FunD K "operated" "operated" (defArgs s_operated) (defBody s_operated) (defScope s_operated) [] [] (He.ga K "operated") fd := F0
  refine ⟨fd, F.ok sc_operated sp3_len (fun cdv A outer s H vs Q E hr h => ?_), F.kp, F.bindsN fun _ _ _ _ _ _ us hl => match us, hl with | [_, _, _], _ => rfl⟩
  refine ⟨_, (pss_cons (ps_if (pt_cmpR op_eq (pv 1) (pe_gi T.i_RUN) (nomark _)) (pss_one (ps_ret (pe_callO (ok_run T) (hr.mono (by decide)) rfl T.g_run (passes_call (takes_of rfl rfl rfl rfl) fun _ _ _ _ h => h) (pa_cons (pv 0) (pa_cons (pv 2) pa_nil))))) pss_nil) (pss_cons (ps_if (pt_cmpR op_inW (pv 1) (pe_gr T.g_WITH_NONE) rfl) (pss_cons (ps_set (i := 3) sc_operated.nd rfl (Or.inl rfl) (pe_ix ix_dicW (pe_gr T.g_WITH_NONE) (pv 1) (fun _ _ => rfl))) (pss_one (ps_ret (pe_callC (S := OpS K) (held_all T) (hr.mono (by decide)) (i := 3) rfl (Or.inl rfl) (passes_call (takes_of rfl rfl rfl rfl) fun _ _ _ _ h => h) (pa_cons (pv 0) pa_nil))))) pss_nil) (pss_cons (ps_if (pt_cmpR op_inW (pv 1) (pe_gr T.g_WITH_ONE) rfl) (pss_cons (ps_set (i := 3) sc_operated.nd rfl (Or.inl rfl) (pe_ix ix_dicW (pe_gr T.g_WITH_ONE) (pv 1) (fun _ _ => rfl))) (pss_one (ps_ret (pe_callC (S := OpS K) (held_all T) (hr.mono (by decide)) (i := 3) rfl (Or.inl rfl) (passes_call (takes_of rfl rfl rfl rfl) fun _ _ _ _ h => h) (pa_cons (pv 0) (pa_cons (pe_ix ix_list (pv 2) pe_int (fun _ _ => rfl)) pa_nil)))))) pss_nil) (pss_cons (ps_if (pt_cmpR op_inW (pv 1) (pe_gr T.g_WITH_TWO) rfl) (pss_cons (ps_set (i := 3) sc_operated.nd rfl (Or.inl rfl) (pe_ix ix_dicW (pe_gr T.g_WITH_TWO) (pv 1) (fun _ _ => rfl))) (pss_one (ps_ret (pe_callC (S := OpS K) (held_all T) (hr.mono (by decide)) (i := 3) rfl (Or.inl rfl) (passes_call (takes_of rfl rfl rfl rfl) fun _ _ _ _ h => h) (pa_cons (pv 0) (pa_cons (pe_ix ix_list (pv 2) pe_int (fun _ _ => rfl)) (pa_cons (pe_ix ix_list (pv 2) pe_int (fun _ _ => rfl)) pa_nil))))))) pss_nil) (pss_cons (ps_set (i := 3) sc_operated.nd rfl (Or.inl rfl) (pe_ix ix_dicW (pe_gr T.g_WITH_THREE) (pv 1) (fun _ _ => rfl))) (pss_one (ps_ret (pe_callC (S := OpS K) (held_all T) (hr.mono (by decide)) (i := 3) rfl (Or.inl rfl) (passes_call (takes_of rfl rfl rfl rfl) fun _ _ _ _ h => h) (pa_cons (pv 0) (pa_cons (pe_ix ix_list (pv 2) pe_int (fun _ _ => rfl)) (pa_cons (pe_ix ix_list (pv 2) pe_int (fun _ _ => rfl)) (pa_cons (pe_ix ix_list (pv 2) pe_int (fun _ _ => rfl)) pa_nil)))))))))))), ?_⟩
  obtain ⟨_, _, _, rfl, L, c, zz, p, ns, xx, rfl, rfl, rfl, R, W, hS, h0, hp, hz, nt, kE, kR⟩ := h
  have hs := sq_of (K := K) hp
  cases hS with
  | create a b l => exact absurd rfl h0
  | run l =>
    refine q_when (et_eqZ (a := 9) (b := 9) (ev_var rfl) ev_c) (fun _ H1 e1 => ?_) fun z => by cases z
    exact s_retX (x_call (ea_cons (ev_var rfl) (ea_cons (ev_var rfl) ea_nil)) fun H2 e2 => ⟨_, _, rfl, L, c, p, ns, rfl, rfl, (R.ex e1).ex e2, W, e2 _ _ (e1 _ _ hp), hz, nt, kE.go (e1.trans e2), kR.go R (e1.trans e2)⟩)
  | n0 h =>
    obtain ⟨h9, f, hf, hop⟩ := n0_at (K := K) h
    refine q_when (et_eqZ (b := 9) (ev_var rfl) ev_c) (fun z => absurd (of_decide_eq_true z) h9) fun _ H1 e1 => ?_
    refine q_when (et_inW (ev_var rfl) T.d_WITH_NONE) (fun _ H2 e2 => ?_) fun z => by rw [hf] at z; cases z
    refine q_asg (ev_ixW (ev_var rfl) T.d_WITH_NONE hf) fun H3 e3 => ?_
    exact s_retX ⟨_, _, rfl, ⟨f, rfl, hop⟩, x_a (ea_cons (ev_var rfl) ea_nil) fun H4 e4 => ⟨_, rfl, L, c, rfl, R.ex (e1.trans (e2.trans (e3.trans e4))), W, kE.go (e1.trans (e2.trans (e3.trans e4))), kR.go R (e1.trans (e2.trans (e3.trans e4)))⟩⟩
  | n1 h a =>
    obtain ⟨h9, g0, f, hf, hop⟩ := n1_at (K := K) h
    refine q_when (et_eqZ (b := 9) (ev_var rfl) ev_c) (fun z => absurd (of_decide_eq_true z) h9) fun _ H1 e1 => ?_
    refine q_when (et_inW (ev_var rfl) T.d_WITH_NONE) (fun z => by rw [g0] at z; cases z) fun _ H2 e2 => ?_
    refine q_when (et_inW (ev_var rfl) T.d_WITH_ONE) (fun _ H3 e3 => ?_) fun z => by rw [hf] at z; cases z
    refine q_asg (ev_ixW (ev_var rfl) T.d_WITH_ONE hf) fun H4 e4 => ?_
    have e04 := e1.trans (e2.trans (e3.trans e4))
    exact s_retX ⟨_, _, rfl, ⟨f, rfl, hop⟩, x_a (ea_cons (ev_var rfl) (ea_cons (ev_op (ev_var rfl) ev_c (rv_ixL (ex_l e04 hs) (atI_nat (j := 0) rfl))) ea_nil)) fun H5 e5 => ⟨_, _, rfl, L, c, a, rfl, rfl, R.ex (e04.trans e5), W, kE.go (e04.trans e5), kR.go R (e04.trans e5)⟩⟩
  | n2 h a b =>
    obtain ⟨h9, g0, g1, f, hf, hop⟩ := n2_at (K := K) h
    refine q_when (et_eqZ (b := 9) (ev_var rfl) ev_c) (fun z => absurd (of_decide_eq_true z) h9) fun _ H1 e1 => ?_
    refine q_when (et_inW (ev_var rfl) T.d_WITH_NONE) (fun z => by rw [g0] at z; cases z) fun _ H2 e2 => ?_
    refine q_when (et_inW (ev_var rfl) T.d_WITH_ONE) (fun z => by rw [g1] at z; cases z) fun _ H3 e3 => ?_
    refine q_when (et_inW (ev_var rfl) T.d_WITH_TWO) (fun _ H4 e4 => ?_) fun z => by rw [hf] at z; cases z
    refine q_asg (ev_ixW (ev_var rfl) T.d_WITH_TWO hf) fun H5 e5 => ?_
    have e05 := e1.trans (e2.trans (e3.trans (e4.trans e5)))
    exact s_retX ⟨_, _, rfl, ⟨f, rfl, hop⟩, x_a (ea_cons (ev_var rfl) (ea_cons (ev_op (ev_var rfl) ev_c (rv_ixL (ex_l e05 hs) (atI_nat (j := 0) rfl))) (ea_cons (ev_op (ev_var rfl) ev_c (rv_ixL (ex_l e05 hs) (atI_nat (j := 1) rfl))) ea_nil))) fun H6 e6 => ⟨_, _, _, rfl, L, c, a, b, rfl, rfl, rfl, R.ex (e05.trans e6), W, kE.go (e05.trans e6), kR.go R (e05.trans e6)⟩⟩
  | n3 h a b d =>
    obtain ⟨h9, g0, g1, g2, f, hf, hop⟩ := n3_at (K := K) h
    refine q_when (et_eqZ (b := 9) (ev_var rfl) ev_c) (fun z => absurd (of_decide_eq_true z) h9) fun _ H1 e1 => ?_
    refine q_when (et_inW (ev_var rfl) T.d_WITH_NONE) (fun z => by rw [g0] at z; cases z) fun _ H2 e2 => ?_
    refine q_when (et_inW (ev_var rfl) T.d_WITH_ONE) (fun z => by rw [g1] at z; cases z) fun _ H3 e3 => ?_
    refine q_when (et_inW (ev_var rfl) T.d_WITH_TWO) (fun z => by rw [g2] at z; cases z) fun _ H4 e4 => ?_
    refine q_asg (ev_ixW (ev_var rfl) T.d_WITH_THREE hf) fun H5 e5 => ?_
    have e05 := e1.trans (e2.trans (e3.trans (e4.trans e5)))
    exact s_retX ⟨_, _, rfl, ⟨f, rfl, hop⟩, x_a (ea_cons (ev_var rfl) (ea_cons (ev_op (ev_var rfl) ev_c (rv_ixL (ex_l e05 hs) (atI_nat (j := 0) rfl))) (ea_cons (ev_op (ev_var rfl) ev_c (rv_ixL (ex_l e05 hs) (atI_nat (j := 1) rfl))) (ea_cons (ev_op (ev_var rfl) ev_c (rv_ixL (ex_l e05 hs) (atI_nat (j := 2) rfl))) ea_nil)))) fun H6 e6 => ⟨_, _, _, _, rfl, L, c, a, b, d, rfl, rfl, rfl, rfl, R.ex (e05.trans e6), W, kE.go (e05.trans e6), kR.go R (e05.trans e6)⟩⟩
end
end Hc
namespace Hc
open PySem PySem.Spec PyProof.Rows L2 Evl
open Hm (Shape)
section
variable {P : Program} {w : World} {K : PySem.W.Frag} {mg : Str → Option Value} {base : Heap}
/-! ### the request's object -/
def TrS (L : Lay) (st : Kp423.State) (b : Addr) : Prop := match st with
  | none => False
  | some c => Tr L c b
def ReqAt (K : PySem.W.Frag) (H : Hp) (rq : Addr) (st : Kp423.State) (L : Lay) : Prop := match st with
  | none => InsAt K H rq "Request" [("client", .non)]
  | some c => InsAt K H rq "Request" [("client", .ref L.cl)] ∧ Rep K H L c ∧ Hm.Wf c ∧ ¬ Tr L c rq
theorem ReqAt.ex {H H' : Hp} {rq : Addr} {st : Kp423.State} {L : Lay} (h : ReqAt K H rq st L) (e : Ex H H') : ReqAt K H' rq st L := by
  cases st with
  | none => exact InsAt.ex h e
  | some c => exact ⟨h.1.ex e, h.2.1.ex e, h.2.2.1, h.2.2.2⟩
def DoneR (K : PySem.W.Frag) (H : Hp) (rq : Addr) (L : Lay) (st : Kp423.State) (x : Kp423.Call) (Q : VK) : Prop := ∀ st' ans H' L' q, Kp423.step st x = (st', ans) → ReqAt K H' rq st' L' → (∀ b o, H b = some o → b ≠ rq → ¬ TrS L st b → H' b = some o ∧ ¬ TrS L' st' b) →
  (∀ o, H q = some o → q ≠ rq → ¬ TrS L st q → False) → q ≠ rq → H' q = some (.lst ((ans.num :: ans.nums).map V.int)) → Q (.ref q) H'
def spDoes (K : PySem.W.Frag) : Sp := sp3 fun x y z H Q E => ∃ (rq : Addr) (L : Lay) (st : Kp423.State) (zz : Int) (p : Addr) (ns : List Nat) (xx : Kp423.Call), x = .ref rq ∧ y = .int zz ∧ z = .ref p ∧ ReqAt K H rq st L ∧ Shape zz ns xx ∧ H p = some (.lst (natL ns)) ∧ ns.length ≤ 30000 ∧ ¬ TrS L st p ∧
  (∀ i, Kp423.step st xx = (st, Kp423.single i) → Rf K H E i) ∧ DoneR K H rq L st xx Q
def spReqInit (K : PySem.W.Frag) : Sp := sp1 fun x H Q _ => ∃ p dx : Addr, x = .ref p ∧ H p = some (.ins (He.ga K "Request") dx []) ∧ ∀ H', InsAt K H' p "Request" [("client", .non)] → (∀ b o, H b = some o → b ≠ p → H' b = some o) → Q .non H'
theorem sc_Request_init : FnScope ["self"] ["self"] (defScope s_Request_init) := ⟨rfl, rfl, rfl, by decide +kernel, rfl, by decide +kernel, by decide +kernel⟩
theorem ok_Request_init (T : Tx K mg) : Ok P w K mg base CX0 1 (He.ma K (He.ga K "Request") "__init__") ["self"] (spReqInit K) := by
  obtain ⟨fd, F0⟩ := T.def_ 78 (d := d_Request_init) rfl
  have F : FunD K "__init__" "Request.__init__" (defArgs s_Request_init) (defBody s_Request_init) (defScope s_Request_init) [] [] (He.ma K (He.ga K "Request") "__init__") fd := F0
  refine ⟨fd, F.ok sc_Request_init sp1_len (fun cdv A outer s H vs Q E hr h => ?_), F.kp, F.bindsN fun _ _ _ _ _ _ us hl => match us, hl with | [_], _ => rfl⟩
  refine ⟨_, PSs.nox (pss_one (ps_fld (pv 0) pe_non rfl)), ?_⟩
  obtain ⟨_, rfl, p, dx, rfl, hp, k⟩ := h
  exact s_new (MkTo.start hp) ev_c (ev_var rfl) T.c_Request T.n_Request_client (by show 0 < 1000; decide) fun H1 m1 => k H1 ⟨dx, m1.at_⟩ m1.old
theorem q_fldX {H : Hp} {σ : L2.St} {ta tb : TE} {f : Str} {D : Ends} {tz : TS} (h : tb σ H fun v H1 => ta σ H1 fun x H2 => ∃ a C dx fs, x = .ref a ∧ H2 a = some (.ins C dx fs) ∧ Cls K C ∧ NoAttr K C f ∧ fs.length < 1000 ∧ tz D σ (upd H2 a (.ins C dx (putF f v fs)))) : tSeq (sFld K ta tb f) tz D σ H := h
theorem zero_shape {zz : Int} {ns : List Nat} {x : Kp423.Call} (h : Shape zz ns x) (z : zz = 0) : ∃ a b l, ns = a :: b :: l ∧ x = .create a b l := by
  cases h with
  | create a b l => exact ⟨a, b, l, rfl, rfl⟩
  | run l => cases z
  | n0 h => cases h <;> cases z
  | n1 h a => cases h <;> cases z
  | n2 h a b => cases h <;> cases z
  | n3 h a b c => cases h <;> cases z
theorem none_shape {zz : Int} {ns : List Nat} {x : Kp423.Call} (h : Shape zz ns x) (z : zz ≠ 0) : Kp423.step none x = (none, Kp423.single (-11)) := by
  cases h with
  | create a b l => exact absurd rfl z
  | run l => rfl
  | n0 h => cases h <;> rfl
  | n1 h a => cases h <;> rfl
  | n2 h a b => cases h <;> rfl
  | n3 h a b c => cases h <;> rfl
theorem some_shape {zz : Int} {ns : List Nat} {x : Kp423.Call} {c : Kp423.Client} (h : Shape zz ns x) (z : zz ≠ 0) : ∃ c', (Kp423.step (some c) x).1 = some c' := by
  have key : ∀ {α : Type} (p : Prop) [Decidable p] (a b : α × Kp423.Ans) (g : α → Prop), g a.1 → g b.1 → g (if p then a else b).1 := fun p _ a b g h1 h2 => by split <;> assumption
  cases h with
  | create a b l => exact absurd rfl z
  | run l => exact key _ _ _ (fun s => ∃ c', s = some c') ⟨_, rfl⟩ ⟨_, rfl⟩
  | n0 h => cases h <;> exact ⟨_, rfl⟩
  | n1 h a =>
    cases h
    case a => exact key _ _ _ (fun s => ∃ c', s = some c') ⟨_, rfl⟩ (key _ _ _ (fun s => ∃ c', s = some c') ⟨_, rfl⟩ ⟨_, rfl⟩)
    case b => exact key _ _ _ (fun s => ∃ c', s = some c') ⟨_, rfl⟩ ⟨_, rfl⟩
    case c => exact key _ _ _ (fun s => ∃ c', s = some c') ⟨_, rfl⟩ (key _ _ _ (fun s => ∃ c', s = some c') ⟨_, rfl⟩ ⟨_, rfl⟩)
    case d => exact key _ _ _ (fun s => ∃ c', s = some c') ⟨_, rfl⟩ ⟨_, rfl⟩
    all_goals exact ⟨_, rfl⟩
  | n2 h a b =>
    cases h
    case a => exact key _ _ _ (fun s => ∃ c', s = some c') ⟨_, rfl⟩ (key _ _ _ (fun s => ∃ c', s = some c') ⟨_, rfl⟩ ⟨_, rfl⟩)
    case b => exact ⟨_, rfl⟩
  | n3 h a b d =>
    cases h
    case a => exact key _ _ _ (fun s => ∃ c', s = some c') ⟨_, rfl⟩ (key _ _ _ (fun s => ∃ c', s = some c') ⟨_, rfl⟩ ⟨_, rfl⟩)
    case b => exact key _ _ _ (fun s => ∃ c', s = some c') ⟨_, rfl⟩ (key _ _ _ (fun s => ∃ c', s = some c') ⟨_, rfl⟩ (key _ _ _ (fun s => ∃ c', s = some c') ⟨_, rfl⟩ ⟨_, rfl⟩))
theorem sc_Request_does : FnScope ["self", "place", "numbers"] ["self", "place", "numbers"] (defScope s_Request_does) := ⟨rfl, rfl, rfl, by decide +kernel, rfl, by decide +kernel, by decide +kernel⟩
theorem ok_Request_does (T : Tx K mg) : Ok P w K mg base (L2.CX P w) 14 (He.ma K (He.ga K "Request") "does") ["self", "place", "numbers"] (spDoes K) := by
  obtain ⟨fd, F0⟩ := T.def_ 79 (d := d_Request_does) rfl
  have F : FunD K "does" "Request.does" (defArgs s_Request_does) (defBody s_Request_does) (defScope s_Request_does) [] [] (He.ma K (He.ga K "Request") "does") fd := F0
  refine ⟨fd, F.ok sc_Request_does sp3_len (fun cdv A outer s H vs Q E hr h => ?_), F.kp, F.bindsN fun _ _ _ _ _ _ us hl => match us, hl with | [_, _, _], _ => rfl⟩
  refine ⟨_, (pss_cons (ps_if (pt_cmpR op_eq (pv 1) (pe_gi T.i_CREATE) (nomark _)) (pss_cons (ps_fld (pv 0) (pe_callO (ok_new_client T) (hr.mono (by decide)) rfl T.g_new_client (passes_call (takes_of rfl rfl rfl rfl) fun _ _ _ _ h => h) (pa_cons (pv 2) pa_nil)) rfl) (pss_one (ps_ret (pe_lst (pa_cons pe_int pa_nil))))) pss_nil) (pss_cons (ps_expr (pe_callO (ok_need T) (hr.mono (by decide)) rfl T.g_need (passes_call (takes_of rfl rfl rfl rfl) fun _ _ _ _ h => h) (pa_cons (pe_cmpR op_notN (pe_fld (pv 0) rfl) pe_non (nomark _)) (pa_cons (pe_gi T.i_NO_CLIENT) pa_nil)))) (pss_one (ps_ret (pe_callO (ok_operated T) (hr.mono (by decide)) rfl T.g_operated (passes_call (takes_of rfl rfl rfl rfl) fun _ _ _ _ h => h) (pa_cons (pe_fld (pv 0) rfl) (pa_cons (pv 1) (pa_cons (pv 2) pa_nil)))))))), ?_⟩
  obtain ⟨_, _, _, rfl, rq, L, st, zz, p, ns, xx, rfl, rfl, rfl, hR, hS, hp, hz, nt, kE, kR⟩ := h
  refine q_when (et_eqZ (b := 0) (ev_var rfl) ev_c) (fun hb H1 e1 => ?_) fun hb H1 e1 => ?_
  · obtain ⟨a, b, l, rfl, rfl⟩ := zero_shape hS (of_decide_eq_true hb)
    have hrq : ∃ v dx, H rq = some (.ins (He.ga K "Request") dx [("client", v)]) := by
      cases st with
      | none =>
        obtain ⟨dx, y⟩ := hR
        exact ⟨_, dx, y⟩
      | some c =>
        obtain ⟨dx, y⟩ := hR.1
        exact ⟨_, dx, y⟩
    obtain ⟨v0, dx, hrq⟩ := hrq
    refine q_fldX (x_call (ea_cons (ev_var rfl) ea_nil) fun H2 e2 => ⟨_, rfl, p, a, b, l, rfl, e2 _ _ (e1 _ _ hp), by simp at hz; omega, fun hbad => ?_, fun pol h1 h2 H3 L' R3 e3 fr => ?_⟩)
    · refine (kE (-22) ?_).go (e1.trans e2)
      rcases hbad with z | z
      · simp only [Kp423.step, z]
      · cases hpp : Kp423.parsePolicy b l with
        | none => simp only [Kp423.step, hpp]
        | some pol => simp only [Kp423.step, hpp, if_pos z]
    · refine x_v (ev_var rfl) fun H4 e4 => ?_
      have e14 := e1.trans (e2.trans (e3.trans e4))
      refine ⟨rq, _, dx, [("client", v0)], rfl, e14 _ _ hrq, T.c_Request, T.n_Request_client, by show 1 < 1000; decide, ?_⟩
      have hs : Kp423.step st (.create a b l) = (some (Hm.client0 pol a), Kp423.single 0) := by
        simp only [Kp423.step, h1, if_neg h2]
        rfl
      have R4 := R3.ex e4
      have ntr : ¬ Tr L' (Hm.client0 pol a) rq := fr rq _ ((e1.trans e2) _ _ hrq)
      have f5 : At1 H4 rq (upd H4 rq (.ins (He.ga K "Request") dx (putF "client" (.ref L'.cl) [("client", v0)]))) := fun y o hy n => by rw [upd_ne n]; exact hy
      have R5 := R4.off ntr f5
      refine s_retL (el_lst (ea_cons ev_c ea_nil) (by show 1 ≤ 100000; decide)) fun q H6 hq e6 h6 => kR _ _ H6 L' q hs ⟨⟨dx, e6 _ _ (upd_same.trans rfl)⟩, R5.ex e6, Hm.Wf.zero (Hm.pol_ok h1) a, ntr⟩ (fun y o hy n nty => ⟨e6 _ _ (by rw [upd_ne n]; exact e14 _ _ hy), fr y o ((e1.trans e2) _ _ hy)⟩) (fun o hqo n _ => ?_) ?_ h6
      · rw [upd_ne n, e14 _ _ hqo] at hq
        cases hq
      · intro z
        rw [z, upd_same] at hq
        cases hq
  · have h0 : zz ≠ 0 := of_decide_eq_false hb
    cases st with
    | none =>
      obtain ⟨dx, y⟩ := hR
      exact q_need (K := K) (b := false) (ev_notN (v := .non) (ev_fld (ev_var rfl) (e1 _ _ y) T.c_Request T.n_Request_client rfl)) (fun z => Bool.noConfusion z) fun _ => (kE (-11) (none_shape hS h0)).go e1
    | some c =>
      obtain ⟨⟨dx, y⟩, R, W, ntr⟩ := hR
      refine q_need (K := K) (b := true) (ev_notN (v := .ref L.cl) (ev_fld (ev_var rfl) (e1 _ _ y) T.c_Request T.n_Request_client rfl)) (fun _ H2 e2 => ?_) fun z => Bool.noConfusion z
      have e12 := e1.trans e2
      refine s_retX (x_call (ea_cons (ev_fld (ev_var rfl) (e12 _ _ y) T.c_Request T.n_Request_client rfl) (ea_cons (ev_var rfl) (ea_cons (ev_var rfl) ea_nil))) fun H3 e3 => ?_)
      have e13 := e12.trans e3
      refine ⟨_, _, _, rfl, L, c, zz, p, ns, xx, rfl, rfl, rfl, R.ex e13, W, hS, h0, e13 _ _ hp, Nat.le_trans hz (by decide), nt, fun i hs => (kE i hs).go e13, fun c' ans H' L' q hs G hf hl => ?_⟩
      have G' := Go.after e13 R G
      have o := G'.old rq _ y ntr
      have W' : Hm.Wf c' := Hm.OkS.step (st := some c) (fun c2 z => by cases z; exact W) xx c' (by rw [hs])
      refine kR (some c') ans H' L' q hs ⟨⟨dx, ?_⟩, G'.rep, W', o.2⟩ (fun b o hb _ n => G'.old b o hb n) (fun o hq _ n => hf o (e13 _ _ hq) n) ?_ hl
      · rw [G'.le.cl]
        exact o.1
      · intro z
        rw [z, o.1] at hl
        cases hl
/-! ### the errors are told -/
theorem x_methX {H : Hp} {σ : L2.St} {ta : TE} {t : TA} {C a dx : Addr} {m : Str} {sp : Sp} {E : L2.St → XK} {fs : List (Str × V)} {vs : List V} {Q : VK} (h : Ev ta σ H (.ref a)) (ha : H a = some (.ins C dx fs)) (l : fs.lookup m = none) (hv : EvA t σ H vs) (k : ∀ H1, Ex H H1 → sp (.ref a :: vs) H1 Q (E σ)) : tMethX C m sp E ta t σ H Q :=
  h H (Ex.refl H) _ fun H2 e2 => ⟨a, dx, fs, rfl, e2 _ _ ha, l, hv H2 e2 _ fun H3 e3 => k H3 (e2.trans e3)⟩
def spAnswer (K : PySem.W.Frag) : Sp := sp3 fun x y z H Q _ => ∃ (rq : Addr) (L : Lay) (st : Kp423.State) (zz : Int) (p : Addr) (ns : List Nat) (xx : Kp423.Call), x = .ref rq ∧ y = .int zz ∧ z = .ref p ∧ ReqAt K H rq st L ∧ Shape zz ns xx ∧ H p = some (.lst (natL ns)) ∧ ns.length ≤ 30000 ∧ ¬ TrS L st p ∧ DoneR K H rq L st xx Q
theorem ev_xf {H : Hp} {σ : L2.St} {te : TE} {a C dd : Addr} {f : Str} {fs : List (Str × V)} {v : V} (h : Ev te σ H (.ref a)) (hd : H dd = some (.xd fs)) (hl : fs.lookup f = some v) : Ev (tXf a (.ref C) (some dd) C f te) σ H v := fun H1 e1 Q q =>
  h H1 e1 _ fun H2 e2 => ⟨rfl, rfl, dd, fs, v, rfl, e2 _ _ (e1 _ _ hd), hl, q H2 e2⟩
theorem sc_Request_answer : FnScope ["self", "place", "numbers", "e"] ["self", "place", "numbers"] (defScope s_Request_answer) := ⟨rfl, rfl, rfl, by decide +kernel, rfl, by decide +kernel, by decide +kernel⟩
theorem ok_Request_answer (T : Tx K mg) : Ok P w K mg base CX0 15 (He.ma K (He.ga K "Request") "answer") ["self", "place", "numbers"] (spAnswer K) := by
  obtain ⟨fd, F0⟩ := T.def_ 80 (d := d_Request_answer) rfl
  have F : FunD K "answer" "Request.answer" (defArgs s_Request_answer) (defBody s_Request_answer) (defScope s_Request_answer) [] [] (He.ma K (He.ga K "Request") "answer") fd := F0
  refine ⟨fd, F.ok sc_Request_answer sp3_len (fun cdv A outer s H vs Q E hr h => ?_), F.kp, F.bindsN fun _ _ _ _ _ _ us hl => match us, hl with | [_, _, _], _ => rfl⟩
  refine ⟨_, PSs.nox (pss_one (ps_try_as (i := 3) (tb := fun W => tRet (tMethX (He.ga K "Request") "does" (spDoes K) (WE W) (tVar 0) (tCons (tVar 1) (tCons (tVar 2) tNil)))) (ts := fun a cls d => tRet (tLst (tCons (tXf a cls d (He.ga K "Refused") "code" (tVar 3)) tNil))) (Wout := fun _ _ _ _ => False) rfl rfl sc_Request_answer.nd rfl rfl ⟨rfl, by decide, .inl T.g_Refused⟩ takes0 (fun W pn xe tk _ => pss_one (ps_ret (by exact (pe_methX (pv 0) T.c_Request T.m_Request_does (ok_Request_does T) (hr.mono (by decide)) (fun σ => passAt tk σ) (by exact (pa_cons (pv 1) (pa_cons (pv 2) pa_nil))))))) (fun a oe cls d pn hz hf => pss_one (ps_ret (by exact (pe_lst (pa_cons (pe_xf T.rest.2.2.2.1 T.rest.2.2.1 hz hf (pv 3)) pa_nil))))))), ?_⟩
  obtain ⟨_, _, _, rfl, rq, L, st, zz, p, ns, xx, rfl, rfl, rfl, hR, hS, hp, hz, nt, kR⟩ := h
  have hrq : ∃ v dx, H rq = some (.ins (He.ga K "Request") dx [("client", v)]) := by
    cases st with
    | none =>
      obtain ⟨dx, y⟩ := hR
      exact ⟨_, dx, y⟩
    | some c =>
      obtain ⟨dx, y⟩ := hR.1
      exact ⟨_, dx, y⟩
  obtain ⟨v0, dx, hrq⟩ := hrq
  refine s_retX (x_methX (ev_var rfl) hrq rfl (ea_cons (ev_var rfl) (ea_cons (ev_var rfl) ea_nil)) fun H2 e2 => ⟨_, _, _, rfl, rq, L, st, zz, p, ns, xx, rfl, rfl, rfl, hR.ex e2, hS, e2 _ _ hp, hz, nt, fun i hs H3 d fs e3 hd hl => ?_, ?_⟩)
  · refine ⟨true, T.exm_Refused, fun _ a ha => ?_, fun z => Bool.noConfusion z⟩
    have e13 := e2.trans e3
    refine s_retL (el_lst (ea_cons (ev_xf (ev_var rfl) hd hl) ea_nil) (by show 1 ≤ 100000; decide)) fun q H4 hq e4 h4 => kR st (Kp423.single i) H4 L q hs (hR.ex (e13.trans e4)) (fun b o hb _ n => ⟨(e13.trans e4) _ _ hb, n⟩) (fun o hqo _ _ => ?_) ?_ h4
    · rw [e13 _ _ hqo] at hq
      cases hq
    · intro z
      rw [z, e13 _ _ hrq] at hq
      cases hq
  · exact fun st' ans H' L' q hs h1 h2 h3 h4 h5 => kR st' ans H' L' q hs h1 (fun b o hb n nt => h2 b o (e2 _ _ hb) n nt) (fun o ho n nt => h3 o (e2 _ _ ho) n nt) h4 h5
end
end Hc
namespace Hc
open PySem PySem.W PySem.Calls PyProof.Rows
abbrev RW : PySem.W.OpenSpec := PySem.Challenge.rw_hedgedcalls_s01_answers
abbrev qv : Program := PySem.W.view RW.prog [104]
noncomputable def ob (s : PySem.W.SharedT) : He.AlD := obsH (He.frG (HandSHeadRun.getT s) (asH (HandSHeadRun.getT s)))
theorem ob_eq (s : PySem.W.SharedT) : ob s = hk.obs s.abs := by
  have e : HandSHeadRun.getT s = s.abs.heap.get? := funext (HandSHeadRun.getT_eq s)
  show obsH (He.frG (HandSHeadRun.getT s) (asH (HandSHeadRun.getT s))) = obsH (He.frG s.abs.heap.get? (asH s.abs.heap.get?))
  rw [e]
theorem run_f (w : World) : HandSHeadRun.RunEqS RW qv hk ob 6000 nmL (w.withFollow "special-get-raises" false) := by
  intro os
  kernel_rfl
theorem run_t (w : World) : HandSHeadRun.RunEqS RW qv hk ob 6000 nmL (w.withFollow "special-get-raises" true) := by
  intro os
  kernel_rfl
theorem run (w : World) : HandSHeadRun.RunEqS RW qv hk ob 6000 nmL w := byRow2 "special-get-raises" (P := fun w => HandSHeadRun.RunEqS RW qv hk ob 6000 nmL w) run_f run_t w
end Hc
namespace Hc
open PySem PySem.Spec PyProof.Rows L2
open PySem.W (Codec)
/-- the promise of the row's def -/
def spAns (K : PySem.W.Frag) : Sp := fun vs H Q _ => ∃ (a : Addr) (ns : List Int), vs = [.ref a] ∧ OnlyF H ∧ SqL K H a (ns.map V.int) ∧ ns.length ≤ 2700 ∧ (∀ x ∈ ns, 0 ≤ x ∧ x ≤ 4294967295) ∧ PyKp423.answers_asked ns = true ∧
  ∀ (H' : Hp) (p : Addr), H' p = some (.lst ((PyKp423.answers ns).map V.int)) → Q (.ref p) H'
theorem end_of (k : Nat) (hk0 : Room k callerA)
    (F : ∀ (w : World) (K : PySem.W.Frag) (mg : Str → Option Value), Tx K mg → ∃ fd : FuncData, (∀ (s : Shared) (us : List Value), us.length = (["calls"] : List Str).length → BindsTo s fd ⟨us, []⟩ ((["calls"] : List Str).zip us)) ∧
      ∀ base : Heap, K.In base → base.Ns mainGlobals mg → FnOk RW.prog w K mg base CX0 k (He.ga K "answers") fd ["calls"] (spAns K)) : RW.Holds := by
  refine HandSHeadRun.head_spec (r := RW) (q := qv) (H := hk) (ob := ob) (M := 6000) (loose := nmL) (d := HandSHeadRun.topDef RW.prog 104) (kwd := []) ob_eq (by kernel_rfl) (fun s => by kernel_rfl) run (by kernel_rfl) (by kernel_rfl) (by kernel_rfl)
    PySem.W.os_shapes (by decide +kernel) (by decide +kernel) ⟨rfl, rfl, rfl, rfl, rfl, by decide +kernel⟩ ⟨[.list [.int 14, .int 0, .int 0]], by decide +kernel, by decide +kernel⟩ ?_
  intro w s₀ s₁ mg mb G Y fa o pm cd doc dV kV ho hd hcd hD hmg hg args vals as hpre hlay hrd hwl hlo
  obtain ⟨K, KX, c⟩ := Y
  obtain ⟨a, e1, e2⟩ := PySem.W.os_pre_some hpre
  obtain ⟨e3, hwi⟩ := Codec.encAll_of_decAll RW.args args a e1
  subst e3
  have T : Tx K mg := ⟨c, _, KX, G.T.g⟩
  have hmg2 : mg ("answers" : Str) = some (.ref fa) := by
    have e : (HandSHeadRun.topDef RW.prog 104).name = ("answers" : PySem.Str) := by kernel_rfl
    rw [← e]
    exact hmg
  have ea := hmg2.symm.trans T.g_answers
  cases ea
  obtain ⟨fd, hb, hF⟩ := F w K mg T
  have hw : RW.wellSaid = true := by decide +kernel
  refine PySem.W.enter_call (codeAny_mono (spec_call (R := []) (cl := classAt s₀.heap) (d0 := RW.ret.enc (Codec.app RW.args RW.f a)) (sp := spAns K) KX G.T.g G.T.b G.T.builtins G.T.nolimit hg hwl (pl_encAll _ _) (layable_weight hlay) hk0 hF hb (encAll_len _ _)
    (fun H xs hO hS => ?_) fun H e s' z => z) fun r' s' hq => ?_)
  · cases hS with
    | cons h1 h2 =>
      cases h2
      cases h1 with
      | lst hs ha =>
        have e := L2.ints_dw a.1 _ ha
        subst e
        have q : ((Codec.inLen 0 2700 a.1 && a.1.all (Codec.inInt 0 4294967295)) && true) = true := hwi
        rw [Bool.and_eq_true, Bool.and_eq_true] at q
        refine ⟨_, a.1, rfl, hO, hs, (Codec.inNat_iff.mp q.1.1).2, fun x hx => ?_, e2, fun H' p hp => .lst (L2.SqL.of hp) (L2.dw_ints _)⟩
        have z := List.all_eq_true.mp q.1.2 x hx
        have z2 : (decide ((0 : Int) ≤ x) && decide (x ≤ 4294967295)) = true := z
        rw [Bool.and_eq_true, decide_eq_true_eq, decide_eq_true_eq] at z2
        exact z2
  · obtain ⟨u, as', rfl, h1, h2, h3, h4⟩ := hq
    exact ⟨.inl ⟨u, _, as', rfl, fun _ => rfl, h1, (PySem.W.OpenSpec.post_iff hw hwi _ _).mpr rfl, fun z => Bool.noConfusion (show false = true from z)⟩, h2, h3, h4⟩
end Hc
namespace Hc
open PySem PySem.Spec PyProof.Rows L2 Evl
open Hm (Shape tellL)
section
variable {P : Program} {w : World} {K : PySem.W.Frag} {mg : Str → Option Value} {base : Heap}
theorem x_meth2L {H : Hp} {σ : L2.St} {ta tb tl : TE} {C a dx : Addr} {m : Str} {sp : Sp} {E : XK} {fs : List (Str × V)} {x : V} {xs : List V} {Q : VK} (h : Ev ta σ H (.ref a)) (ha : H a = some (.ins C dx fs)) (l : fs.lookup m = none) (hx : Ev tb σ H x) (hl : EvL tl σ H xs)
    (k : ∀ p H1, H p = none → Ex H H1 → H1 p = some (.lst xs) → sp [.ref a, x, .ref p] H1 Q E) : tMeth C m sp [] E ta (tCons tb (tCons tl tNil)) σ H Q :=
  h H (Ex.refl H) _ fun H1 e1 => ⟨a, dx, fs, rfl, e1 _ _ ha, l, hx H1 e1 _ fun H2 e2 => hl H2 (e1.trans e2) _ fun p H3 hp e3 h3 => k p H3 (fresh_back (e1.trans e2) hp) ((e1.trans e2).trans e3) h3⟩
theorem sql_keep {H H' : Hp} {a : Addr} {xs : List V} (f : ∀ o, H a = some o → H' a = some o) (h : SqL K H a xs) : SqL K H' a xs := by
  rcases h with (z | ⟨o, z⟩) | z
  · exact .inl (.inl (f _ z))
  · exact .inl (.inr ⟨o, f _ z⟩)
  · exact .inr z
theorem ReqAt.ins {H : Hp} {rq : Addr} {st : Kp423.State} {L : Lay} (h : ReqAt K H rq st L) : ∃ v dx, H rq = some (.ins (He.ga K "Request") dx [("client", v)]) := by
  cases st with
  | none =>
    obtain ⟨dx, y⟩ := h
    exact ⟨_, dx, y⟩
  | some c =>
    obtain ⟨dx, y⟩ := h.1
    exact ⟨_, dx, y⟩
theorem ReqAt.free {H : Hp} {rq : Addr} {st : Kp423.State} {L : Lay} (h : ReqAt K H rq st L) {p : Addr} (hp : H p = none) : ¬ TrS L st p := by
  cases st with
  | none => exact fun z => z
  | some c => exact h.2.1.free hp
/-- one object that is no part of it is written -/
theorem ReqAt.off {H H' : Hp} {rq p : Addr} {st : Kp423.State} {L : Lay} (h : ReqAt K H rq st L) (nt : ¬ TrS L st p) (n : p ≠ rq) (f : At1 H p H') : ReqAt K H' rq st L := by
  cases st with
  | none => exact InsAt.keep h f n.symm
  | some c => exact ⟨h.1.keep f n.symm, h.2.1.off nt f, h.2.2.1, h.2.2.2⟩
theorem at_place {done r : List Int} {i : Nat} {x : Int} (h : r[i]? = some x) : ((done ++ r).map V.int)[done.length + i]? = some (V.int x) := by
  rw [List.getElem?_map, List.getElem?_append_right (Nat.le_add_right _ _), Nat.add_sub_cancel_left, h]
  rfl
theorem sc_answers : FnScope ["calls", "request", "found", "at", "begin", "end", "told"] ["calls"] (defScope s_answers) := ⟨rfl, rfl, rfl, by decide +kernel, rfl, by decide +kernel, by decide +kernel⟩
theorem fn_answers (T : Tx K mg) : ∃ fd : FuncData, (∀ (s : Shared) (us : List Value), us.length = (["calls"] : List Str).length → BindsTo s fd ⟨us, []⟩ ((["calls"] : List Str).zip us)) ∧ ∀ base : Heap, FnOk P w K mg base CX0 16 (He.ga K "answers") fd ["calls"] (spAns K) := by
  obtain ⟨fd, F0⟩ := T.def_ 81 (d := d_answers) rfl
  have F : FunD K "answers" "answers" (defArgs s_answers) (defBody s_answers) (defScope s_answers) [] [] (He.ga K "answers") fd := F0
  refine ⟨fd, fun s us hl => F.bindsA (ps := ["calls"]) (fun _ _ _ _ _ _ us hl => match us, hl with | [_], _ => rfl) s us hl, fun base => F.ok sc_answers (fun vs H Q E h => by obtain ⟨_, _, rfl, _⟩ := h; rfl) (fun cdv A outer s H vs Q E hr h => ?_)⟩
  refine ⟨_, PSs.nox (pss_cons (ps_set (i := 1) sc_answers.nd rfl (Or.inl rfl) (pe_make0O T.mk_Request (ok_Request_init T) (hr.mono (by decide)) rfl T.g_Request pass0)) (pss_cons (ps_set (i := 2) sc_answers.nd rfl (Or.inl rfl) (pe_lst pa_nil)) (pss_cons (ps_set (i := 3) sc_answers.nd rfl (Or.inl rfl) pe_int) (pss_cons (ps_while PassesOwn.never (pt_cmpR op_lt (pv 3) (pe_callB call_len_seq rfl T.b_len (by decide +kernel) (pa_cons (pv 0) pa_nil)) (nomark _)) (pss_cons (ps_set (i := 4) sc_answers.nd rfl (Or.inl rfl) (pe_op op_add (pv 3) pe_int)) (pss_cons (ps_set (i := 5) sc_answers.nd rfl (Or.inl rfl) (pe_op op_add (pv 4) (pe_ix ix_list (pv 0) (pe_op op_add (pv 3) pe_int) (fun _ _ => rfl)))) (pss_cons (ps_set (i := 6) sc_answers.nd rfl (Or.inl rfl) (pe_methO (pv 1) T.c_Request T.m_Request_answer (ok_Request_answer T) (hr.mono (by decide)) pass0 (pa_cons (pe_ix ix_list (pv 0) (pv 3) (fun _ _ => rfl)) (pa_cons (pe_slice sl_list (pv 0) (po_some (pv 4)) (po_some (pv 5))) pa_nil)))) (pss_cons (ps_expr (pe_bm PySem.F.plainAttrs_list PySem.F.slot_list_append PySem.F.type_list_append mt_append (pv 2) (pa_cons (pe_callB call_len_seq rfl T.b_len (by decide +kernel) (pa_cons (pv 6) pa_nil)) pa_nil))) (pss_cons (ps_expr (pe_bm PySem.F.plainAttrs_list PySem.F.slot_list_extend PySem.F.type_list_extend mt_extend (pv 2) (pa_cons (pv 6) pa_nil))) (pss_one (ps_set (i := 3) sc_answers.nd rfl (Or.inl rfl) (pe_op op_add (pv 5) pe_int))))))))) (pss_one (ps_ret (pv 2))))))), ?_⟩
  obtain ⟨a, ns, rfl, _, ha, hz, hnn, hask, k⟩ := h
  obtain ⟨cs, hcs, hall, hans, hshort⟩ := Hm.asked_open hask
  refine q_asgX (x_make (vs := []) ea_nil fun H1 rq dp e1 hrq hdp ndp => ⟨_, rfl, rq, dp, rfl, upd_same, fun H2 h2 f2 => ⟨rfl, ?_⟩⟩)
  have e2 : Ex H1 H2 := Ex.made hrq hdp f2
  refine q_asgL el_nil fun pf H3 hpf e3 h3 => ?_
  refine q_asg (v := .int ((0 : Nat) : Int)) ev_c fun H4 e4 => ?_
  have e14 := e1.trans (e2.trans (e3.trans e4))
  have npr : pf ≠ rq := fun z => by
    obtain ⟨d, y⟩ := h2
    rw [z, y] at hpf
    cases hpf
  have na : ∀ o, H a = some o → a ≠ rq ∧ a ≠ pf := fun o q => ⟨ne_of_none (e1 _ _ q) hrq, ne_of_none ((e1.trans e2) _ _ q) hpf⟩
  refine q_while (fun m σ' H' => ∃ (L : Lay) (st : Kp423.State) (done r acc : List Int) (f : Nat) (cs : List (List (List Int))) (v4 v5 v6 : Option V), σ' = [some (.ref a), some (.ref rq), some (.ref pf), some (.int (done.length : Int)), v4, v5, v6] ∧ ns = done ++ r ∧ m = r.length ∧
    PyWide.calls f r = some cs ∧ cs.all Kp423Neutral.asked1 = true ∧ PyKp423.answers ns = acc ++ tellL st cs ∧ ReqAt K H' rq st L ∧ H' pf = some (.lst (acc.map V.int)) ∧ ¬ TrS L st pf ∧ ∀ o, H a = some o → H' a = some o ∧ ¬ TrS L st a) ns.length
    ⟨⟨0, 0, 0, 0, 0, 0, fun _ => 0, fun _ => 0, fun _ => 0, fun _ => 0⟩, none, [], ns, [], ns.length, cs, none, none, none, rfl, rfl, rfl, hcs, hall, hans, InsAt.ex h2 (e3.trans e4), e4 _ _ h3, fun z => z, fun o q => ⟨e14 _ _ q, fun z => z⟩⟩ ?_
  rintro m _ H5 ⟨L, st, done, r, acc, f, cs, v4, v5, v6, rfl, hns, rfl, hc, hal, han, hR, hF, nt, ka⟩
  have hs5 : SqL K H5 a (ns.map V.int) := sql_keep (fun o q => (ka o q).1) ha
  have ln := ev_lenL (K := K) (tl := tVar 0) (σ := [some (V.ref a), some (V.ref rq), some (V.ref pf), some (V.int (done.length : Int)), v4, v5, v6]) (H := H5) (ev_var rfl) hs5
  rw [List.length_map] at ln
  refine ⟨decide (done.length < ns.length), et_test (ev_lt (ev_var rfl) ln), fun hb H6 e6 => ?_, fun hb H6 e6 => ?_⟩
  · have hlt : done.length < ns.length := of_decide_eq_true hb
    have hrne : r ≠ [] := fun z => by
      rw [hns, z, List.append_nil] at hlt
      exact Nat.lt_irrefl _ hlt
    obtain ⟨p, l, t, cs', f', hr, hc', hcs', hask1, hal'⟩ := Hm.turn hc hal (fun x hx => (hnn x (by rw [hns]; exact List.mem_append_right _ hx)).1) hrne
    obtain ⟨xx, hcall, hshape⟩ := Hm.shape_of hask1
    subst hcs'
    rw [Hm.tell_cons hcall] at han
    have hl0 : (ns.map V.int)[done.length]? = some (V.int p) := by
      rw [hns]
      exact at_place (i := 0) (by rw [hr]; rfl)
    have hl1 : (ns.map V.int)[done.length + 1]? = some (V.int (l.length : Int)) := by
      rw [hns]
      exact at_place (i := 1) (by rw [hr]; rfl)
    have nslen : ns.length = done.length + (2 + (l.length + (1 + t.length))) := by
      rw [hns, hr]
      simp [Hm.asInts]
      omega
    refine ⟨_, fun σ2 H7 z => ⟨t.length, by rw [hr]; simp; omega, z⟩, ?_⟩
    have hs6 := ex_l e6 hs5
    refine q_asg (v := .int ((done.length + 2 : Nat) : Int)) (ev_op (ev_var rfl) ev_c rv_I0) fun H7 e7 => ?_
    have hs7 := ex_l e7 hs6
    refine q_asg (v := .int ((done.length + 2 + l.length : Nat) : Int)) (ev_op (ev_var rfl) (ev_op (y := .int ((done.length + 1 : Nat) : Int)) (ev_var rfl) (ev_op (ev_var rfl) ev_c rv_I0) (rv_ixL hs7 (atI_nat hl1))) rv_I0) fun H8 e8 => ?_
    have e58 := e6.trans (e7.trans e8)
    have hs8 := ex_l e8 hs7
    have es := el_sl (K := K) (σ := [some (V.ref a), some (V.ref rq), some (V.ref pf), some (V.int (done.length : Int)), some (V.int ((done.length + 2 : Nat) : Int)), some (V.int ((done.length + 2 + l.length : Nat) : Int)), v6]) (H := H8) (ev_var (i := 0) rfl) (eo_some (te := tVar 4) (i := ((done.length + 2 : Nat) : Int)) (ev_var rfl)) (eo_some (te := tVar 5) (i := ((done.length + 2 + l.length : Nat) : Int)) (ev_var rfl)) hs8
    have ecut : cutV (ns.map V.int) (some ((done.length + 2 : Nat) : Int)) (some ((done.length + 2 + l.length : Nat) : Int)) = natL l := by
      rw [cut_mid (by rw [List.length_map, nslen]; omega)]
      have e1 : done.length + 2 + l.length - (done.length + 2) = l.length := by omega
      have e2 : (ns.map V.int).drop (done.length + 2) = natL l ++ (V.int 0 :: t.map V.int) := by
        rw [hns, hr, List.map_append, List.drop_append, List.length_map, List.drop_eq_nil_of_le (by rw [List.length_map]; omega)]
        have : done.length + 2 - done.length = 2 := by omega
        rw [this, nat_int]
        simp
      rw [e1, e2, List.take_append_of_le_length (by rw [List.length_map]; exact Nat.le_refl _), List.take_of_length_le (by rw [List.length_map]; exact Nat.le_refl _)]
    rw [ecut] at es
    have hR8 := hR.ex e58
    obtain ⟨v0, dx, hrqi⟩ := hR8.ins
    refine q_asgX (x_meth2L (ev_var rfl) hrqi rfl (ev_op (ev_var rfl) (ev_var rfl) (rv_ixL hs8 (atI_nat hl0))) es fun p9 H9 hp9 e9 h9 => ⟨_, _, _, rfl, rq, L, st, p, p9, l, xx, rfl, rfl, rfl, hR8.ex e9, hshape, h9, by omega, hR8.free hp9, fun st' ans H10 L' q hstep hR10 f10 fr10 nq h10 => ?_⟩)
    rw [hstep] at han
    dsimp only at han
    have e59 := e58.trans e9
    have pf10 := f10 pf _ (e59 _ _ hF) npr nt
    have nqp : q ≠ pf := fun z => by
      rw [z] at fr10
      exact fr10 _ (e59 _ _ hF) npr nt
    have lans := congrArg List.length han
    rw [List.length_append, List.length_cons, List.length_append] at lans
    have lt := ev_lenL (K := K) (tl := tVar 6) (σ := [some (V.ref a), some (V.ref rq), some (V.ref pf), some (V.int (done.length : Int)), some (V.int ((done.length + 2 : Nat) : Int)), some (V.int ((done.length + 2 + l.length : Nat) : Int)), some (V.ref q)]) (H := H10) (ev_var rfl) (sq_of h10)
    rw [List.length_map] at lt
    have szl := sizeLine_eq
    refine q_dropX (x_bmL (ev_var rfl) pf10.1 fun H11 e11 => x_v (lt.mono e11) fun H12 e12 => ⟨pf, _, _, rfl, rfl, e12 _ _ (e11 _ _ pf10.1), by rw [List.length_map, szl]; omega, ?_⟩)
    have h12q : upd H12 pf (.lst (acc.map V.int ++ [.int ((ans.num :: ans.nums).length : Int)])) q = some (.lst ((ans.num :: ans.nums).map V.int)) := by
      rw [upd_ne nqp]
      exact e12 _ _ (e11 _ _ h10)
    have e1012 := e11.trans e12
    refine q_dropX (x_bmL (ev_var rfl) upd_same fun H13 e13 => x_v (ev_var rfl) fun H14 e14' => ⟨pf, q, _, _, rfl, rfl, e14' _ _ (e13 _ _ upd_same), e14' _ _ (e13 _ _ h12q), by rw [List.length_append, List.length_map, List.length_map, szl]; simp only [List.length_cons, List.length_nil] at lans ⊢; omega, ?_⟩)
    refine s_asg (v := .int ((done.length + 2 + l.length + 1 : Nat) : Int)) (ev_op (ev_var rfl) ev_c rv_I0) fun H15 e15 => ?_
    have keepA : ∀ b o, H10 b = some o → b ≠ pf → H15 b = some o := fun b o hb n => by
      refine e15 _ _ ?_
      rw [upd_ne n]
      refine e14' _ _ (e13 _ _ ?_)
      rw [upd_ne n]
      exact e1012 _ _ hb
    refine ⟨L', st', done ++ (p :: (l.length : Int) :: (Hm.asInts l ++ [0])), t, acc ++ ((ans.num :: ans.nums).length : Int) :: (ans.num :: ans.nums), f', cs', some (.int ((done.length + 2 : Nat) : Int)), some (.int ((done.length + 2 + l.length : Nat) : Int)), some (.ref q), ?_, ?_, rfl, hc', hal', ?_, ?_, ?_, ?_, ?_⟩
    · have : (done ++ (p :: (l.length : Int) :: (Hm.asInts l ++ [0]))).length = done.length + 2 + l.length + 1 := by
        simp [Hm.asInts]
        omega
      rw [this]
      rfl
    · rw [hns, hr]
      simp
    · rw [han]
      simp
    · exact hR10.off pf10.2 npr (fun b o hb n => keepA b o hb n)
    · refine e15 _ _ (upd_same.trans ?_)
      simp
    · exact pf10.2
    · intro o q0
      obtain ⟨n1, n2⟩ := na o q0
      have y := f10 a o (e59 _ _ (ka o q0).1) n1 (ka o q0).2
      exact ⟨keepA a o y.1 n2, y.2⟩
  · have hge : ¬ done.length < ns.length := of_decide_eq_false hb
    have hr0 : r = [] := by
      cases r with
      | nil => rfl
      | cons x y =>
        rw [hns, List.length_append, List.length_cons] at hge
        omega
    subst hr0
    have := Hm.calls_nil hc
    subst this
    rw [Hm.tell_nil, List.append_nil] at han
    refine s_ret (ev_var rfl) fun H7 e7 => k H7 pf ?_
    rw [han]
    exact e7 _ _ (e6 _ _ hF)
end
end Hc
open PySem PySem.W PyProof.Rows
theorem PySem.Challenge.cw_hedgedcalls_s01_answers_holds : PySem.Challenge.rw_hedgedcalls_s01_answers.Holds := by
  refine Hc.end_of 16 ⟨rfl, by decide, by decide⟩ fun w K mg T => ?_
  obtain ⟨fd, h1, h2⟩ := Hc.fn_answers (P := Hc.RW.prog) (w := w) T
  exact ⟨fd, h1, fun base _ _ => h2 base⟩
