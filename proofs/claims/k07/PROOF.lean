import PyProof.Rows.All
import Wide.All
import OpenK.AllK
import Wide.FinOn
import KE.KStateDown
import Lean
import HandS.Base
import HandS.Call
import HandS.Ends
import HandS.More
import HandS.Words
import HandS.WordsExc
import HandS.Defaults
import HandS.Head0
import HandS.Head1
import HandS.Head2
import HandS.HeadEnd
import HandS.HeadHook1
import HandS.HeadHook2
import HandS.HeadHook3
import HandS.HeadHook4
import PySem.Challenge.RW_stopdesk_k07_whole_changes_are_as_told
import HandS.ForMost
import HandS.Walk
import KE.GoesNew
import KE.GoesMore
import PyProof.NeKinds
import HandS.Codes
import HandS.IsInst
import HandS.TupMul
import HandS.Exc
import HandS.Style
import HandS.TupAny
import HandS.WordsDict
set_option Elab.async false
set_option linter.all false
set_option maxRecDepth 100000
set_option maxHeartbeats 0
namespace Hd
open PySem PySem.Spec PyProof.Rows L2
def top (i : Nat) : Stmt := PySem.Challenge.pw_stopdesk_k07_whole_changes_are_as_told.main.body.getD i (.Pass ⟨0, 0, 0, 0⟩)
abbrev s_m_BadProgram_init : Stmt := inClass (top 3) 0
abbrev s_f_is_number : Stmt := top 25
abbrev s_m_Looker_init : Stmt := inClass (top 26) 0
abbrev s_m_Looker_begin : Stmt := inClass (top 26) 1
abbrev s_m_Looker_bounds : Stmt := inClass (top 26) 2
abbrev s_m_Looker_part : Stmt := inClass (top 26) 3
abbrev s_m_Looker_body : Stmt := inClass (top 26) 4
abbrev s_f_need_head : Stmt := top 27
abbrev s_f_need_program : Stmt := top 28
abbrev s_f_is_wish : Stmt := top 29
abbrev s_m_Numberer_init : Stmt := inClass (top 30) 0
abbrev s_m_Numberer_body : Stmt := inClass (top 30) 1
abbrev s_f_numbered : Stmt := top 31
abbrev s_f_reckoned : Stmt := top 32
abbrev s_f_worth : Stmt := top 33
abbrev s_m_Frame_init : Stmt := inClass (top 37) 0
abbrev s_m_Machine_init : Stmt := inClass (top 38) 0
abbrev s_m_Machine_frame : Stmt := inClass (top 38) 1
abbrev s_m_Machine_settle : Stmt := inClass (top 38) 2
abbrev s_m_Machine_unfold : Stmt := inClass (top 38) 3
abbrev s_m_Machine_back : Stmt := inClass (top 38) 4
abbrev s_m_Machine_seek : Stmt := inClass (top 38) 5
abbrev s_m_Machine_is_over : Stmt := inClass (top 38) 6
abbrev s_m_Machine_next_place : Stmt := inClass (top 38) 7
abbrev s_m_Machine_deed : Stmt := inClass (top 38) 8
abbrev s_m_Machine_do : Stmt := inClass (top 38) 9
abbrev s_m_Machine_call : Stmt := inClass (top 38) 10
abbrev s_f_need_count : Stmt := top 39
abbrev s_f_plain : Stmt := top 40
abbrev s_m_Watched_init : Stmt := inClass (top 44) 0
abbrev s_m_Watched_need_hand : Stmt := inClass (top 44) 1
abbrev s_m_Watched_stop : Stmt := inClass (top 44) 2
abbrev s_m_Watched_clear : Stmt := inClass (top 44) 3
abbrev s_m_Watched_met : Stmt := inClass (top 44) 4
abbrev s_m_Watched_is_reached : Stmt := inClass (top 44) 5
abbrev s_m_Watched_event : Stmt := inClass (top 44) 6
abbrev s_m_Watched_begin : Stmt := inClass (top 44) 7
abbrev s_m_Watched_on : Stmt := inClass (top 44) 8
abbrev s_m_Watched_finish : Stmt := inClass (top 44) 9
abbrev s_m_Watched_go : Stmt := inClass (top 44) 10
abbrev s_m_Watched_need_go : Stmt := inClass (top 44) 11
abbrev s_m_Watched_need_step : Stmt := inClass (top 44) 12
abbrev s_m_Watched_step : Stmt := inClass (top 44) 13
abbrev s_m_Watched_stack : Stmt := inClass (top 44) 14
abbrev s_m_Watched_frame : Stmt := inClass (top 44) 15
abbrev s_m_Watched_look : Stmt := inClass (top 44) 16
abbrev s_m_Watched_change : Stmt := inClass (top 44) 17
abbrev s_m_Watched_put : Stmt := inClass (top 44) 18
abbrev s_m_Watched_cells : Stmt := inClass (top 44) 19
abbrev s_m_Watched_said : Stmt := inClass (top 44) 20
abbrev s_m_Watched_is_over : Stmt := inClass (top 44) 21
abbrev s_f_need_number : Stmt := top 45
abbrev s_f_law_dice : Stmt := top 47
abbrev s_f_law_next : Stmt := top 48
abbrev s_f_law_part : Stmt := top 49
abbrev s_f_law_body : Stmt := top 50
abbrev s_f_law_count : Stmt := top 51
abbrev s_f_law_program : Stmt := top 52
abbrev s_f_law_names : Stmt := top 53
abbrev s_f_law : Stmt := top 54
def d_m_BadProgram_init : He.DefD := ⟨("BadProgram", some "__init__"), "__init__", "BadProgram.__init__", defArgs s_m_BadProgram_init, defBody s_m_BadProgram_init, defScope s_m_BadProgram_init, [], []⟩
def d_f_is_number : He.DefD := ⟨("is_number", none), "is_number", "is_number", defArgs s_f_is_number, defBody s_f_is_number, defScope s_f_is_number, [], []⟩
def d_m_Looker_init : He.DefD := ⟨("Looker", some "__init__"), "__init__", "Looker.__init__", defArgs s_m_Looker_init, defBody s_m_Looker_init, defScope s_m_Looker_init, [], []⟩
def d_m_Looker_begin : He.DefD := ⟨("Looker", some "begin"), "begin", "Looker.begin", defArgs s_m_Looker_begin, defBody s_m_Looker_begin, defScope s_m_Looker_begin, [], []⟩
def d_m_Looker_bounds : He.DefD := ⟨("Looker", some "bounds"), "bounds", "Looker.bounds", defArgs s_m_Looker_bounds, defBody s_m_Looker_bounds, defScope s_m_Looker_bounds, [], []⟩
def d_m_Looker_part : He.DefD := ⟨("Looker", some "part"), "part", "Looker.part", defArgs s_m_Looker_part, defBody s_m_Looker_part, defScope s_m_Looker_part, [], []⟩
def d_m_Looker_body : He.DefD := ⟨("Looker", some "body"), "body", "Looker.body", defArgs s_m_Looker_body, defBody s_m_Looker_body, defScope s_m_Looker_body, [], []⟩
def d_f_need_head : He.DefD := ⟨("need_head", none), "need_head", "need_head", defArgs s_f_need_head, defBody s_f_need_head, defScope s_f_need_head, [], []⟩
def d_f_need_program : He.DefD := ⟨("need_program", none), "need_program", "need_program", defArgs s_f_need_program, defBody s_f_need_program, defScope s_f_need_program, [], []⟩
def d_f_is_wish : He.DefD := ⟨("is_wish", none), "is_wish", "is_wish", defArgs s_f_is_wish, defBody s_f_is_wish, defScope s_f_is_wish, [], []⟩
def d_m_Numberer_init : He.DefD := ⟨("Numberer", some "__init__"), "__init__", "Numberer.__init__", defArgs s_m_Numberer_init, defBody s_m_Numberer_init, defScope s_m_Numberer_init, [], []⟩
def d_m_Numberer_body : He.DefD := ⟨("Numberer", some "body"), "body", "Numberer.body", defArgs s_m_Numberer_body, defBody s_m_Numberer_body, defScope s_m_Numberer_body, [], []⟩
def d_f_numbered : He.DefD := ⟨("numbered", none), "numbered", "numbered", defArgs s_f_numbered, defBody s_f_numbered, defScope s_f_numbered, [], []⟩
def d_f_reckoned : He.DefD := ⟨("reckoned", none), "reckoned", "reckoned", defArgs s_f_reckoned, defBody s_f_reckoned, defScope s_f_reckoned, [], []⟩
def d_f_worth : He.DefD := ⟨("worth", none), "worth", "worth", defArgs s_f_worth, defBody s_f_worth, defScope s_f_worth, [], []⟩
def d_m_Frame_init : He.DefD := ⟨("Frame", some "__init__"), "__init__", "Frame.__init__", defArgs s_m_Frame_init, defBody s_m_Frame_init, defScope s_m_Frame_init, [], []⟩
def d_m_Machine_init : He.DefD := ⟨("Machine", some "__init__"), "__init__", "Machine.__init__", defArgs s_m_Machine_init, defBody s_m_Machine_init, defScope s_m_Machine_init, [], []⟩
def d_m_Machine_frame : He.DefD := ⟨("Machine", some "frame"), "frame", "Machine.frame", defArgs s_m_Machine_frame, defBody s_m_Machine_frame, defScope s_m_Machine_frame, [], []⟩
def d_m_Machine_settle : He.DefD := ⟨("Machine", some "settle"), "settle", "Machine.settle", defArgs s_m_Machine_settle, defBody s_m_Machine_settle, defScope s_m_Machine_settle, [], []⟩
def d_m_Machine_unfold : He.DefD := ⟨("Machine", some "unfold"), "unfold", "Machine.unfold", defArgs s_m_Machine_unfold, defBody s_m_Machine_unfold, defScope s_m_Machine_unfold, [], []⟩
def d_m_Machine_back : He.DefD := ⟨("Machine", some "back"), "back", "Machine.back", defArgs s_m_Machine_back, defBody s_m_Machine_back, defScope s_m_Machine_back, [], []⟩
def d_m_Machine_seek : He.DefD := ⟨("Machine", some "seek"), "seek", "Machine.seek", defArgs s_m_Machine_seek, defBody s_m_Machine_seek, defScope s_m_Machine_seek, [], []⟩
def d_m_Machine_is_over : He.DefD := ⟨("Machine", some "is_over"), "is_over", "Machine.is_over", defArgs s_m_Machine_is_over, defBody s_m_Machine_is_over, defScope s_m_Machine_is_over, [], []⟩
def d_m_Machine_next_place : He.DefD := ⟨("Machine", some "next_place"), "next_place", "Machine.next_place", defArgs s_m_Machine_next_place, defBody s_m_Machine_next_place, defScope s_m_Machine_next_place, [], []⟩
def d_m_Machine_deed : He.DefD := ⟨("Machine", some "deed"), "deed", "Machine.deed", defArgs s_m_Machine_deed, defBody s_m_Machine_deed, defScope s_m_Machine_deed, [], []⟩
def d_m_Machine_do : He.DefD := ⟨("Machine", some "do"), "do", "Machine.do", defArgs s_m_Machine_do, defBody s_m_Machine_do, defScope s_m_Machine_do, [], []⟩
def d_m_Machine_call : He.DefD := ⟨("Machine", some "call"), "call", "Machine.call", defArgs s_m_Machine_call, defBody s_m_Machine_call, defScope s_m_Machine_call, [], []⟩
def d_f_need_count : He.DefD := ⟨("need_count", none), "need_count", "need_count", defArgs s_f_need_count, defBody s_f_need_count, defScope s_f_need_count, [], []⟩
def d_f_plain : He.DefD := ⟨("plain", none), "plain", "plain", defArgs s_f_plain, defBody s_f_plain, defScope s_f_plain, [], []⟩
def d_m_Watched_init : He.DefD := ⟨("Watched", some "__init__"), "__init__", "Watched.__init__", defArgs s_m_Watched_init, defBody s_m_Watched_init, defScope s_m_Watched_init, [], []⟩
def d_m_Watched_need_hand : He.DefD := ⟨("Watched", some "need_hand"), "need_hand", "Watched.need_hand", defArgs s_m_Watched_need_hand, defBody s_m_Watched_need_hand, defScope s_m_Watched_need_hand, [], []⟩
def d_m_Watched_stop : He.DefD := ⟨("Watched", some "stop"), "stop", "Watched.stop", defArgs s_m_Watched_stop, defBody s_m_Watched_stop, defScope s_m_Watched_stop, [], []⟩
def d_m_Watched_clear : He.DefD := ⟨("Watched", some "clear"), "clear", "Watched.clear", defArgs s_m_Watched_clear, defBody s_m_Watched_clear, defScope s_m_Watched_clear, [], []⟩
def d_m_Watched_met : He.DefD := ⟨("Watched", some "met"), "met", "Watched.met", defArgs s_m_Watched_met, defBody s_m_Watched_met, defScope s_m_Watched_met, [], []⟩
def d_m_Watched_is_reached : He.DefD := ⟨("Watched", some "is_reached"), "is_reached", "Watched.is_reached", defArgs s_m_Watched_is_reached, defBody s_m_Watched_is_reached, defScope s_m_Watched_is_reached, [], []⟩
def d_m_Watched_event : He.DefD := ⟨("Watched", some "event"), "event", "Watched.event", defArgs s_m_Watched_event, defBody s_m_Watched_event, defScope s_m_Watched_event, [], []⟩
def d_m_Watched_begin : He.DefD := ⟨("Watched", some "begin"), "begin", "Watched.begin", defArgs s_m_Watched_begin, defBody s_m_Watched_begin, defScope s_m_Watched_begin, [], []⟩
def d_m_Watched_on : He.DefD := ⟨("Watched", some "on"), "on", "Watched.on", defArgs s_m_Watched_on, defBody s_m_Watched_on, defScope s_m_Watched_on, [], []⟩
def d_m_Watched_finish : He.DefD := ⟨("Watched", some "finish"), "finish", "Watched.finish", defArgs s_m_Watched_finish, defBody s_m_Watched_finish, defScope s_m_Watched_finish, [], []⟩
def d_m_Watched_go : He.DefD := ⟨("Watched", some "go"), "go", "Watched.go", defArgs s_m_Watched_go, defBody s_m_Watched_go, defScope s_m_Watched_go, [], []⟩
def d_m_Watched_need_go : He.DefD := ⟨("Watched", some "need_go"), "need_go", "Watched.need_go", defArgs s_m_Watched_need_go, defBody s_m_Watched_need_go, defScope s_m_Watched_need_go, [], []⟩
def d_m_Watched_need_step : He.DefD := ⟨("Watched", some "need_step"), "need_step", "Watched.need_step", defArgs s_m_Watched_need_step, defBody s_m_Watched_need_step, defScope s_m_Watched_need_step, [], []⟩
def d_m_Watched_step : He.DefD := ⟨("Watched", some "step"), "step", "Watched.step", defArgs s_m_Watched_step, defBody s_m_Watched_step, defScope s_m_Watched_step, [], []⟩
def d_m_Watched_stack : He.DefD := ⟨("Watched", some "stack"), "stack", "Watched.stack", defArgs s_m_Watched_stack, defBody s_m_Watched_stack, defScope s_m_Watched_stack, [], []⟩
def d_m_Watched_frame : He.DefD := ⟨("Watched", some "frame"), "frame", "Watched.frame", defArgs s_m_Watched_frame, defBody s_m_Watched_frame, defScope s_m_Watched_frame, [], []⟩
def d_m_Watched_look : He.DefD := ⟨("Watched", some "look"), "look", "Watched.look", defArgs s_m_Watched_look, defBody s_m_Watched_look, defScope s_m_Watched_look, [], []⟩
def d_m_Watched_change : He.DefD := ⟨("Watched", some "change"), "change", "Watched.change", defArgs s_m_Watched_change, defBody s_m_Watched_change, defScope s_m_Watched_change, [], []⟩
def d_m_Watched_put : He.DefD := ⟨("Watched", some "put"), "put", "Watched.put", defArgs s_m_Watched_put, defBody s_m_Watched_put, defScope s_m_Watched_put, [], []⟩
def d_m_Watched_cells : He.DefD := ⟨("Watched", some "cells"), "cells", "Watched.cells", defArgs s_m_Watched_cells, defBody s_m_Watched_cells, defScope s_m_Watched_cells, [], []⟩
def d_m_Watched_said : He.DefD := ⟨("Watched", some "said"), "said", "Watched.said", defArgs s_m_Watched_said, defBody s_m_Watched_said, defScope s_m_Watched_said, [], []⟩
def d_m_Watched_is_over : He.DefD := ⟨("Watched", some "is_over"), "is_over", "Watched.is_over", defArgs s_m_Watched_is_over, defBody s_m_Watched_is_over, defScope s_m_Watched_is_over, [], []⟩
def d_f_need_number : He.DefD := ⟨("need_number", none), "need_number", "need_number", defArgs s_f_need_number, defBody s_f_need_number, defScope s_f_need_number, [], []⟩
def d_f_law_dice : He.DefD := ⟨("_law_dice", none), "_law_dice", "_law_dice", defArgs s_f_law_dice, defBody s_f_law_dice, defScope s_f_law_dice, [], []⟩
def d_f_law_next : He.DefD := ⟨("_law_next", none), "_law_next", "_law_next", defArgs s_f_law_next, defBody s_f_law_next, defScope s_f_law_next, [], []⟩
def d_f_law_part : He.DefD := ⟨("_law_part", none), "_law_part", "_law_part", defArgs s_f_law_part, defBody s_f_law_part, defScope s_f_law_part, [], []⟩
def d_f_law_body : He.DefD := ⟨("_law_body", none), "_law_body", "_law_body", defArgs s_f_law_body, defBody s_f_law_body, defScope s_f_law_body, [], []⟩
def d_f_law_count : He.DefD := ⟨("_law_count", none), "_law_count", "_law_count", defArgs s_f_law_count, defBody s_f_law_count, defScope s_f_law_count, [], []⟩
def d_f_law_program : He.DefD := ⟨("_law_program", none), "_law_program", "_law_program", defArgs s_f_law_program, defBody s_f_law_program, defScope s_f_law_program, [], []⟩
def d_f_law_names : He.DefD := ⟨("_law_names", none), "_law_names", "_law_names", defArgs s_f_law_names, defBody s_f_law_names, defScope s_f_law_names, [], []⟩
def d_f_law : He.DefD := ⟨("law", none), "law", "law", defArgs s_f_law, defBody s_f_law, defScope s_f_law, [], []⟩
def fn : List He.DefD := [d_m_BadProgram_init, d_f_is_number, d_m_Looker_init, d_m_Looker_begin, d_m_Looker_bounds, d_m_Looker_part, d_m_Looker_body, d_f_need_head, d_f_need_program, d_f_is_wish, d_m_Numberer_init, d_m_Numberer_body, d_f_numbered, d_f_reckoned, d_f_worth, d_m_Frame_init, d_m_Machine_init, d_m_Machine_frame, d_m_Machine_settle, d_m_Machine_unfold, d_m_Machine_back, d_m_Machine_seek, d_m_Machine_is_over, d_m_Machine_next_place, d_m_Machine_deed, d_m_Machine_do, d_m_Machine_call, d_f_need_count, d_f_plain, d_m_Watched_init, d_m_Watched_need_hand, d_m_Watched_stop, d_m_Watched_clear, d_m_Watched_met, d_m_Watched_is_reached, d_m_Watched_event, d_m_Watched_begin, d_m_Watched_on, d_m_Watched_finish, d_m_Watched_go, d_m_Watched_need_go, d_m_Watched_need_step, d_m_Watched_step, d_m_Watched_stack, d_m_Watched_frame, d_m_Watched_look, d_m_Watched_change, d_m_Watched_put, d_m_Watched_cells, d_m_Watched_said, d_m_Watched_is_over, d_f_need_number, d_f_law_dice, d_f_law_next, d_f_law_part, d_f_law_body, d_f_law_count, d_f_law_program, d_f_law_names, d_f_law]
def fa : List He.Fa := [.glo "is_number", .glo "need_head", .glo "need_program", .glo "is_wish", .glo "numbered", .glo "reckoned", .glo "worth", .glo "need_count", .glo "plain", .glo "need_number", .glo "_law_dice", .glo "_law_next", .glo "_law_part", .glo "_law_body", .glo "_law_count", .glo "_law_program", .glo "_law_names", .glo "law", .glo "Looker", .cls "Looker", .mkr "Looker", .noat "Looker" "many", .noat "Looker" "params", .noat "Looker" "names", .noat "Looker" "seen", .meth "Looker" "begin", .meth "Looker" "bounds", .meth "Looker" "part", .meth "Looker" "body", .glo "Numberer", .cls "Numberer", .mkr "Numberer", .noat "Numberer" "count", .noat "Numberer" "funs", .meth "Numberer" "body", .glo "Frame", .cls "Frame", .mkr "Frame", .noat "Frame" "fun", .noat "Frame" "names", .noat "Frame" "todo", .noat "Frame" "at", .glo "Machine", .cls "Machine", .mkr "Machine", .noat "Machine" "bodies", .noat "Machine" "heads", .noat "Machine" "held", .noat "Machine" "hands", .noat "Machine" "whose", .noat "Machine" "talk", .noat "Machine" "done", .meth "Machine" "frame", .meth "Machine" "settle", .meth "Machine" "unfold", .meth "Machine" "back", .meth "Machine" "seek", .meth "Machine" "is_over", .meth "Machine" "next_place", .meth "Machine" "deed", .meth "Machine" "do", .meth "Machine" "call", .glo "Watched", .cls "Watched", .mkr "Watched", .noat "Watched" "program", .noat "Watched" "funs", .noat "Watched" "machine", .noat "Watched" "stops", .noat "Watched" "made", .noat "Watched" "goal", .noat "Watched" "left", .noat "Watched" "first", .noat "Watched" "moved", .meth "Watched" "need_hand", .meth "Watched" "stop", .meth "Watched" "clear", .meth "Watched" "met", .meth "Watched" "is_reached", .meth "Watched" "event", .meth "Watched" "begin", .meth "Watched" "on", .meth "Watched" "finish", .meth "Watched" "go", .meth "Watched" "need_go", .meth "Watched" "need_step", .meth "Watched" "step", .meth "Watched" "stack", .meth "Watched" "frame", .meth "Watched" "look", .meth "Watched" "change", .meth "Watched" "put", .meth "Watched" "cells", .meth "Watched" "said", .meth "Watched" "is_over", .int "REST" 10007, .int "MOST_CELLS" 8, .int "MOST_FUNS" 4, .int "MOST_HANDS" 3, .int "MOST_NAMES" 4, .int "MOST_THINGS" 100, .int "MOST_DEEP" 8, .int "TIMES" 10, .glo "PARTS", .glo "TWO", .glo "DEEDS", .int "MOST_FRAMES" 20, .int "MOST_DEEDS" 2000, .int "MOST_STOPS" 20, .glo "WAYS", .free "len", .free "zip", .free "isinstance", .free "range", .free "enumerate", .free "int", .free "list", .free "sorted", .free "tuple", .free "str", .free "bool", .free "sum", .free "max", .free "min"]
def ts : List He.Tab := [(fun K => He.ga K "PARTS", ["num", "name", "cell"]), (fun K => He.ga K "DEEDS", ["set", "put", "say", "if", "again", "call", "return"])]
def exb (K : PySem.W.Frag) : Bool := He.valsB K (He.ga K "PARTS") [("num", .str "n"), ("name", .str "k"), ("cell", .str "c")] && (He.tupB K "TWO" [.str "add", .str "take", .str "times", .str "less", .str "same"] && (He.valsB K (He.ga K "DEEDS") [("set", .str "kx"), ("put", .str "cx"), ("say", .str "x"), ("if", .str "xbb"), ("again", .str "xb"), ("call", .str "fpk"), ("return", .str "x")] && (He.tupB K "WAYS" [.str "in", .str "over", .str "out"])))
abbrev R : PySem.W.OpenRow := PySem.W.OpenLaw.row PySem.Challenge.rw_stopdesk_k07_whole_changes_are_as_told
abbrev hk : PySem.W.Hook := He.hookX 4 fa fn ts [] exb
def ob (s : PySem.W.SharedT) : He.AlX := He.obsX 4 fa fn ts [] exb (HandSHeadRun.getT s)
theorem ob_eq (s : PySem.W.SharedT) : ob s = hk.obs s.abs := He.obsX_eq (HandSHeadRun.getT_eq s)
end Hd
set_option Elab.async false
set_option linter.all false
set_option maxRecDepth 100000
set_option maxHeartbeats 0
namespace Hd
open PySem PySem.Spec PyProof.Rows L2
def nm0 : List PySem.Str := ["_wall", "DeskError", "BadProgram", "BadCount", "BadPlace", "NoHand", "BadWish", "BadWay", "Full", "NoFrame", "BadNumber", "Ended", "REST", "MOST_CELLS", "MOST_FUNS", "MOST_HANDS", "MOST_NAMES", "MOST_THINGS", "MOST_DEEP", "TIMES", "PARTS", "TWO", "DEEDS", "is_number", "Looker", "need_head", "need_program", "is_wish", "Numberer", "numbered"]
def nm1 : List PySem.Str := ["reckoned", "worth", "MOST_FRAMES", "MOST_DEEDS", "Frame", "Machine", "need_count", "plain", "MOST_STOPS", "WAYS", "Watched", "need_number", "_law_dice", "_law_next", "_law_part", "_law_body", "_law_count", "_law_program", "_law_names"]
def names : List PySem.Str := nm0 ++ nm1
abbrev RunP (w : World) : Prop := HandSHeadRun.RunEq R (PySem.W.view R.prog [54]) hk ob 6000 names w
theorem runF (w : World) : RunP (w.withFollow "special-get-raises" false) := by
  intro os
  kernel_rfl
theorem runT (w : World) : RunP (w.withFollow "special-get-raises" true) := by
  intro os
  kernel_rfl
theorem run (w : World) : HandSHeadRun.RunEq R (PySem.W.view R.prog [54]) hk ob 6000 names w := PySem.W.byRow2 "special-get-raises" (P := RunP) runF runT w
end Hd
set_option Elab.async false
set_option linter.all false
set_option maxRecDepth 100000
set_option maxHeartbeats 2000000
namespace SD
open PySem PySem.Spec PyProof.Rows L2

/-! zip of a text and a tuple -/
def ItzST (K : PySem.W.Frag) (x : Str) (b : Addr) : It :=
  ⟨fun i H => ∃ (ys : List V), SqT K H b ys ∧ i < min x.cps.size ys.length,
   fun i H v H' => ∃ T c y, v = .ref T ∧ H T = none ∧ H' = upd H T (.tup [.str ⟨#[c]⟩, y]) ∧ x.cps[i]? = some c ∧ ∀ ys, SqT K H b ys → ys[i]? = some y,
   fun i H => ∃ ys : List V, SqT K H b ys ∧ i = min x.cps.size ys.length⟩
theorem zfp {z TI TO i1 i2 c : Addr} (h : c ∈ [z, TI, TO, i1, i2]) : c = z ∨ c = TI ∨ c = TO ∨ c = i1 ∨ c = i2 := by simpa using h
theorem turn_zipST {P : Program} {w : World} {K : PySem.W.Frag} {elts : List Expr} {kk : Nat} {tpos : Pos} {x : Str} {t : Tok} {b z TI TO i1 i2 : Addr} (hb : b ≠ i2) (S : ZipSep2 z TI TO i1 i2 [i1] [i2, b]) :
    Turn P w K (.Tuple elts kk tpos) (ItzST K x b) [z, TI, TO, i1, i2] z (fun i h => IsZip h z TI TO .none ∧ IsTupOf2 h TI (.ref i1) (.ref i2) ∧ (∃ a1 a2, IsTupOf2 h TO a1 a2) ∧ h.IsStrIter i1 (strIterType x) x t i ∧ h.IsTupleIter i2 b i) where
  mem := by simp
  obj := fun i h st c hc => by
    obtain ⟨hz, hTI, ⟨x, y, hTO⟩, ⟨o1, e1, _, d1⟩, ⟨o2, e2, _, d2⟩⟩ := st
    rcases zfp hc with q | q | q | q | q
    · rw [q]; exact ⟨_, hz, fun v q => nomatch q⟩
    · rw [q]; exact ⟨_, hTI, fun v q => nomatch q⟩
    · rw [q]; exact ⟨_, hTO, fun v q => nomatch q⟩
    · rw [q]; exact ⟨o1, e1, fun v q => by rw [d1] at q; cases q⟩
    · rw [q]; exact ⟨o2, e2, fun v q => by rw [d2] at q; cases q⟩
  keep := fun i h h' st k => by
    obtain ⟨hz, hTI, ⟨x, y, hTO⟩, ⟨o1, e1, c1, d1⟩, h2⟩ := st
    exact ⟨k z (by simp) _ hz, k TI (by simp) _ hTI, ⟨x, y, k TO (by simp) _ hTO⟩, ⟨o1, k i1 (by simp) _ e1, c1, d1⟩, h2.at fun o q => k i2 (by simp) o q⟩
  item := by
    intro X hP hw hK hc i pins s σ H E I hf st hg
    subst hP hw hK
    obtain ⟨hz, hTI, hTO, h1, h2⟩ := st
    obtain ⟨ys, hq, hi⟩ := hg
    obtain ⟨its, rv, p, _⟩ := I.tuple hq
    have hh := I.ok.hd hc
    have hl : its.toArray.size = ys.length := by have := rv.length; simp; omega
    have W := GoesN.zip2 (elts := elts) (x1 := kk) (pos := tpos) S (Draws.text (prog := X.prog) (w := X.w) (A := X.A.in1) hh i1 x t) (Draws.tuple (prog := X.prog) (w := X.w) (A := X.A.in1) hh i2 b hb its.toArray)
    refine W.goes i s _ E (by rw [hl]; exact hi) ⟨hz, hTI, hTO, h1, ⟨h2, p⟩⟩ fun v h' tk hY hst hk htk => ?_
    obtain ⟨T, u1, u2, rfl, hT, ⟨c, tc, hx1, rfl⟩, hx2, hTu⟩ := hY
    have hi2 : i < ys.length := by omega
    have hy : ys[i]? = some ys[i] := List.getElem?_eq_getElem hi2
    obtain ⟨u3, hu3, ru3⟩ := rv.get hy
    have e2 : u2 = u3 := by
      have : its.toArray[i]? = some u3 := by simpa using hu3
      rw [this] at hx2
      exact (Option.some.inj hx2).symm
    subst e2
    have new : ObjOk X.prog X.w (upd H T (.tup [.str ⟨#[c]⟩, ys[i]])) h' T (.tup [.str ⟨#[c]⟩, ys[i]]) :=
      ⟨by show 2 ≤ sizeLine; decide, [.str ⟨#[c]⟩ tc, u2], .cons ⟨_, rfl⟩ (.cons ru3 .nil), hTu⟩
    have I1 : Inv X pins σ (upd H T (.tup [.str ⟨#[c]⟩, ys[i]])) { s with heap := h', toks := tk } :=
      I.turnedNew (t' := tk) (ch := [z, TI, TO, i1, i2]) (fun a o ha q => hk a o (fun hm => ha (by simp at hm; rcases hm with h | h | h | h <;> simp [h])) q) hf hT new
    obtain ⟨g1, g2, g3, g4, g5⟩ := hst
    refine ⟨.ref T, _, I1, rfl, ⟨T, c, ys[i], rfl, I.hok.fresh hT, rfl, hx1, fun l hl' => by rw [I.tuple_inj hl' hq]; exact hy⟩, ⟨g1, g2, g3, g4, g5.1⟩, fun a ha => ?_⟩
    have hne : a ≠ T := by
      intro e
      have hlt : a < s.heap.objs.size := by
        rcases zfp ha with q | q | q | q | q
        · rw [q]; exact Heap.lt_size hz
        · rw [q]; exact Heap.lt_size hTI
        · rw [q]; obtain ⟨_, _, hTO⟩ := hTO; exact Heap.lt_size hTO
        · rw [q]; obtain ⟨_, e1, _⟩ := h1; exact Heap.lt_size e1
        · rw [q]; obtain ⟨_, e2, _⟩ := h2; exact Heap.lt_size e2
      exact absurd (Nat.lt_of_lt_of_le hlt hT) (by rw [e]; exact Nat.lt_irrefl _)
    rw [upd_ne hne]
    exact (hf a ha).1
  done := by
    intro X hP hw hK hc i pins s σ H E I hf st hg
    subst hP hw hK
    obtain ⟨hz, hTI, hTO, h1, h2⟩ := st
    obtain ⟨ys, hq, hi⟩ := hg
    obtain ⟨its, rv, p, _⟩ := I.tuple hq
    have hh := I.ok.hd hc
    have hl : its.toArray.size = ys.length := by have := rv.length; simp; omega
    have W := GoesN.zip2 (elts := elts) (x1 := kk) (pos := tpos) S (Draws.text (prog := X.prog) (w := X.w) (A := X.A.in1) hh i1 x t) (Draws.tuple (prog := X.prog) (w := X.w) (A := X.A.in1) hh i2 b hb its.toArray)
    rw [hl, ← hi] at W
    refine W.stops s _ E ⟨hz, hTI, hTO, h1, ⟨h2, p⟩⟩ fun h' tk hk htk => ?_
    exact I.turnedL (t' := tk) (ch := [z, TI, TO, i1, i2]) (fun a o ha q => hk a o (fun hm => ha (by simp at hm; rcases hm with h | h | h | h <;> simp [h])) q) hf
  self := fun A i s Q E st h => wpAny_pyIter_zip st.1 h
def iZipST (K : PySem.W.Frag) (ta : TA) : TI := fun σ H R => ta σ H fun vs H1 => ∃ x b ys, vs = [.str x, .ref b] ∧ SqT K H1 b ys ∧ R (ItzST K x b) H1
theorem pi_zipST {X : Cx} {e e2 : Expr} {ta : TA} {p pos tpos : Pos} {elts : List Expr} {kk : Nat} (hg : Gl X "zip") (hm : X.mg "zip" = none) (ha : PA X [e, e2] ta)
    (hs : starEach [e, e2] X.env = (false, eval e X.env) :: starEach [e2] X.env := by rfl) (hpl : (backTo pos (starEach [e2] X.env)).any (·.1) = false := by rfl) :
    PI X (.Tuple elts kk tpos) (.Call (.Name "zip" p) [e, e2] [] pos) (iZipST X.K ta) := by
  refine ⟨fun pins s σ H R I h => ?_⟩
  refine Call_ (ld_blt I hg hm PyProof.Rows.boot_zip (PyProof.Rows.callWith_type1 (thn (ha.run pos pins s σ H _ I h) fun us s1 ⟨vs, H1, I1, r1, q1⟩ => ?_) hs hpl))
  obtain ⟨x, b, ys, ex, hqy, q⟩ := q1
  subst ex
  cases r1 with
  | cons r rr =>
    cases rr with
    | cons r' rr =>
      cases rr
      obtain ⟨t, rfl⟩ := r
      cases r'
      obtain ⟨its2, rv2, p2, _⟩ := I1.tuple hqy
      have lb : b < s1.heap.objs.size := by obtain ⟨o, ho, _⟩ := id p2; exact Heap.lt_size ho
      refine zip_begins2 (begins_text x t) (begins_tuple b its2.toArray) trivial p2 fun h' hz hTI hTO h1 h2 hsz hk => wpAny_pyIter_zip hz ?_
      have I2 : Inv X pins σ H1 { s1 with heap := h' } := I1.kept (t' := s1.toks) hk
      have S := zip_sep2 (N := s1.heap.objs.size) (fp1 := []) (fp2 := [b]) (by simp) (by intro c hc; simp at hc; rw [hc]; exact lb)
      refine ⟨s1.heap.objs.size + 4, [s1.heap.objs.size + 4, s1.heap.objs.size + 2, s1.heap.objs.size + 3, s1.heap.objs.size, s1.heap.objs.size + 1], _, _, H1, rfl, I2, turn_zipST (x := x) (t := t) (Nat.ne_of_lt (Nat.lt_succ_of_lt lb)) S, ⟨hz, hTI, ⟨_, _, hTO⟩, ⟨_, h1, rfl, rfl⟩, ⟨_, h2, rfl, rfl⟩⟩, fun c hcm => ?_, q⟩
      have hle : s1.heap.objs.size ≤ c := by
        rcases zfp hcm with z | z | z | z | z
        · rw [z]; exact Nat.le_add_right _ _
        · rw [z]; exact Nat.le_add_right _ _
        · rw [z]; exact Nat.le_add_right _ _
        · rw [z]; exact Nat.le_refl _
        · rw [z]; exact Nat.le_add_right _ _
      exact I1.fpOk hle (I1.hok.fresh hle)
def YST (x : Str) (ys : List V) : Nat → Hp → V → Hp → Prop := fun i H v H' => ∃ T c y, v = .ref T ∧ H T = none ∧ H' = upd H T (.tup [.str ⟨#[c]⟩, y]) ∧ x.cps[i]? = some c ∧ ys[i]? = some y
theorem walk_zipST {K : PySem.W.Frag} {x : Str} {b : Addr} {ys : List V} : Walk (ItzST K x b) (min x.cps.size ys.length) (fun H => SqT K H b ys) (YST x ys) :=
  ⟨fun i H hi q => ⟨ys, q, hi⟩, fun H q => ⟨ys, q, rfl⟩, fun i H v H' hi q ⟨T, c, y, e1, e2, e3, e4, e5⟩ => ⟨T, c, y, e1, e2, e3, e4, e5 ys q⟩⟩


set_option maxHeartbeats 1000000 in
theorem meets_enumerate_new1B {v : Value} {o : Obj} {H : Heap → Prop} (B : Begins v o H) :
    Meets (Builtin.«enumerate.__new__» ⟨[.type "enumerate", v], []⟩) (fun _ R s => H s.heap ∧
      R (.ok (.ret (.ref (s.heap.push o).objs.size))) { s with heap := (s.heap.push o).push { cls := .type "enumerate", data := .fields #[.none, .bool false, .ref s.heap.objs.size, rawInt 0, .none, .none] } }) :=
  .of_wp fun prog w A R s h => by
    obtain ⟨hp, g, d, tk, os⟩ := s; obtain ⟨h1, h⟩ := h
    have hsub := sub_enumerate
    have q1 : ∀ {A' : Around} {E : Value → Shared → Prop} {Q : Value → Shared → Prop}, Q (.ref hp.objs.size) ⟨hp.push o, g, d, tk, os⟩ → wpAny (model prog w) A' (pyIter v) Q E ⟨hp, g, d, tk, os⟩ :=
      fun q => B.iter prog w _ _ ⟨hp, g, d, tk, os⟩ _ h1 q
    wp_walk using q1
    refine wpAny_stack_any fun st => wpAny_pure ?_
    split
    · rename_i c _ _ _ _ _
      cases (c == Value.type "enumerate")
      · wp_walk using q1
        exact ⟨_, rfl, h⟩
      · wp_walk using q1
        exact ⟨_, rfl, h⟩
    · wp_walk using q1
      exact ⟨_, rfl, h⟩
theorem call_enumerate_tuple {prog : Program} {w : World} {A : Around} {E : Value → Shared → Prop} {s : Shared} {l : Addr} {items : Array Value} {Q : Value → Shared → Prop} (hL : s.heap.IsTuple l items)
    (h : ∀ h', IsEnum h' (s.heap.objs.size + 1) s.heap.objs.size 0 .none → h'.IsTupleIter s.heap.objs.size l 0 → h'.objs.size = s.heap.objs.size + 2 →
      (∀ b o, s.heap.get? b = some o → h'.get? b = some o) → Q (.ref (s.heap.objs.size + 1)) { s with heap := h' }) :
    wpAny (model prog w) A (call (.type "enumerate") [.ref l]) Q E s := by
  have B := begins_tuple l items
  refine callType_new F.called_enumerate (by decide) (F.typeCall_enumerate_1 _) (F.newCall_enumerate_1 _) (fun obj => F.args_object_init_2 obj _) F.entry_enumerate_new
    (meets_enumerate_new1B B) ⟨hL, ?_⟩
  generalize ho : ({ cls := .type "tuple_iterator", data := .fields #[.ref l, .int 0 0] } : Obj) = o at B
  have hz : (s.heap.push o).objs.size = s.heap.objs.size + 1 := Heap.size_push ..
  show _ ∧ _
  rw [hz]
  have he : IsEnum ((s.heap.push o).push { cls := .type "enumerate", data := .fields #[.none, .bool false, .ref s.heap.objs.size, rawInt 0, .none, .none] }) (s.heap.objs.size + 1) s.heap.objs.size 0 .none := by
    have := Heap.get?_push_size (s.heap.push o) (o := { cls := .type "enumerate", data := .fields #[.none, .bool false, .ref s.heap.objs.size, rawInt 0, .none, .none] }) rfl
    rw [hz] at this; exact this
  refine ⟨⟨_, he, rfl⟩, h _ he ⟨o, Heap.get?_push_of_some _ (Heap.get?_push_size _ B.free), by rw [← ho], by rw [← ho]; rfl⟩ (by rw [Heap.size_push, hz]) fun b o x => Heap.get?_push_of_some _ (Heap.get?_push_of_some _ x)⟩
/-! enumerate of a tuple -/
def ItET (K : PySem.W.Frag) (b : Addr) : It :=
  ⟨fun i H => ∃ (ys : List V), SqT K H b ys ∧ i < ys.length,
   fun i H v H' => ∃ T y, v = .ref T ∧ H T = none ∧ H' = upd H T (.tup [.int (i : Nat), y]) ∧ ∀ ys, SqT K H b ys → ys[i]? = some y,
   fun i H => ∃ ys : List V, SqT K H b ys ∧ i = ys.length⟩
theorem turn_enumT {P : Program} {w : World} {K : PySem.W.Frag} {elts : List Expr} {kk : Nat} {tpos : Pos} {b e it : Addr} (hb : b ≠ it) (hei : e ≠ it) (heb : e ≠ b) :
    Turn P w K (.Tuple elts kk tpos) (ItET K b) [e, it] e (fun i h => (∃ old, IsEnum h e it ((i : Nat) : Int) old) ∧ h.IsTupleIter it b i) where
  mem := by simp
  obj := fun i h st c hc => by
    obtain ⟨⟨old, he⟩, ⟨o2, e2, _, d2⟩⟩ := st
    have e' : c = e ∨ c = it := by simpa using hc
    rcases e' with q | q
    · rw [q]; exact ⟨_, he, fun v q => nomatch q⟩
    · rw [q]; exact ⟨o2, e2, fun v q => by rw [d2] at q; cases q⟩
  keep := fun i h h' st k => by
    obtain ⟨⟨old, he⟩, h2⟩ := st
    exact ⟨⟨old, k e (by simp) _ he⟩, h2.at fun o q => k it (by simp) o q⟩
  item := by
    intro X hP hw hK hc i pins s σ H E I hf st hg
    subst hP hw hK
    obtain ⟨he, h2⟩ := st
    obtain ⟨ys, hq, hi⟩ := hg
    obtain ⟨its, rv, p, _⟩ := I.tuple hq
    have hh := I.ok.hd hc
    have hl : its.toArray.size = ys.length := by have := rv.length; simp; omega
    have W := GoesN.enumFrom (elts := elts) (x1 := kk) (pos := tpos) 0 (Draws.tuple (prog := X.prog) (w := X.w) (A := X.A.in1) hh it b hb its.toArray) e hei (by simp [hei, heb]) (by simp)
    refine W.goes i s _ E (by rw [hl]; exact hi) ⟨by obtain ⟨old, he⟩ := he; exact ⟨old, by rw [Int.zero_add]; exact he⟩, ⟨h2, p⟩⟩ fun v h' tk hY hst hk htk => ?_
    obtain ⟨T, tc, u2, rfl, hT, hx2, hTu⟩ := hY
    have hy : ys[i]? = some ys[i] := List.getElem?_eq_getElem hi
    obtain ⟨u3, hu3, ru3⟩ := rv.get hy
    have e2 : u2 = u3 := by
      have : its.toArray[i]? = some u3 := by simpa using hu3
      rw [this] at hx2
      exact (Option.some.inj hx2).symm
    subst e2
    have new : ObjOk X.prog X.w (upd H T (.tup [.int (i : Nat), ys[i]])) h' T (.tup [.int (i : Nat), ys[i]]) :=
      ⟨by show 2 ≤ sizeLine; decide, [.int (0 + (i : Int)) tc, u2], .cons ⟨tc, by rw [Int.zero_add]⟩ (.cons ru3 .nil), hTu⟩
    have I1 : Inv X pins σ (upd H T (.tup [.int (i : Nat), ys[i]])) { s with heap := h', toks := tk } :=
      I.turnedNew (t' := tk) (ch := [e, it]) (fun a o ha q => hk a o (fun hm => ha hm) q) hf hT new
    obtain ⟨⟨old, g1⟩, g5⟩ := hst
    refine ⟨.ref T, _, I1, rfl, ⟨T, ys[i], rfl, I.hok.fresh hT, rfl, fun l hl' => by rw [I.tuple_inj hl' hq]; exact hy⟩, ⟨⟨old, by rw [Int.zero_add] at g1; exact g1⟩, g5.1⟩, fun a ha => ?_⟩
    have hne : a ≠ T := by
      intro e0
      have hlt : a < s.heap.objs.size := by
        have e' : a = e ∨ a = it := by simpa using ha
        rcases e' with q | q
        · rw [q]; obtain ⟨_, e1⟩ := he; exact Heap.lt_size e1
        · rw [q]; obtain ⟨_, e2, _⟩ := h2; exact Heap.lt_size e2
      exact absurd (Nat.lt_of_lt_of_le hlt hT) (by rw [e0]; exact Nat.lt_irrefl _)
    rw [upd_ne hne]
    exact (hf a ha).1
  done := by
    intro X hP hw hK hc i pins s σ H E I hf st hg
    subst hP hw hK
    obtain ⟨he, h2⟩ := st
    obtain ⟨ys, hq, hi⟩ := hg
    obtain ⟨its, rv, p, _⟩ := I.tuple hq
    have hh := I.ok.hd hc
    have hl : its.toArray.size = ys.length := by have := rv.length; simp; omega
    have W := GoesN.enumFrom (elts := elts) (x1 := kk) (pos := tpos) 0 (Draws.tuple (prog := X.prog) (w := X.w) (A := X.A.in1) hh it b hb its.toArray) e hei (by simp [hei, heb]) (by simp)
    rw [hl, ← hi] at W
    refine W.stops s _ E ⟨by obtain ⟨old, he⟩ := he; exact ⟨old, by rw [Int.zero_add]; exact he⟩, ⟨h2, p⟩⟩ fun h' tk hk htk => ?_
    exact I.turnedL (t' := tk) (ch := [e, it]) (fun a o ha q => hk a o ha q) hf
  self := fun A i s Q E st h => by
    obtain ⟨⟨old, he⟩, _⟩ := st
    exact wpAny_pyIter_enum he h
def iEnumT (K : PySem.W.Frag) (ta : TA) : TI := fun σ H R => ta σ H fun vs H1 => ∃ a xs, vs = [.ref a] ∧ SqT K H1 a xs ∧ R (ItET K a) H1
theorem pi_enumT {X : Cx} {e : Expr} {ta : TA} {p pos tpos : Pos} {elts : List Expr} {kk : Nat} (hg : Gl X "enumerate") (hm : X.mg "enumerate" = none) (ha : PA X [e] ta) (hs : starEach [e] X.env = [(false, eval e X.env)] := by rfl) :
    PI X (.Tuple elts kk tpos) (.Call (.Name "enumerate" p) [e] [] pos) (iEnumT X.K ta) := by
  refine ⟨fun pins s σ H R I h => ?_⟩
  refine Call_ (ld_blt I hg hm boot_enumerate (PyProof.Rows.callWith_type1 (thn (ha.run pos pins s σ H _ I h) fun us s1 ⟨vs, H1, I1, r1, q1⟩ => ?_) hs rfl))
  obtain ⟨a, xs, ex, hq, q⟩ := q1
  subst ex
  cases r1 with
  | cons r rr =>
    cases rr
    cases r
    obtain ⟨its, rv, p', hz⟩ := I1.tuple hq
    have lb : a < s1.heap.objs.size := by obtain ⟨o, ho, _⟩ := id p'; exact Heap.lt_size ho
    refine call_enumerate_tuple p' fun h' he hit hsz hk => wpAny_pyIter_enum he ?_
    have I2 : Inv X pins σ H1 { s1 with heap := h' } := I1.kept (t' := s1.toks) hk
    refine ⟨s1.heap.objs.size + 1, [s1.heap.objs.size + 1, s1.heap.objs.size], _, _, H1, rfl, I2, turn_enumT (Nat.ne_of_lt lb) (Nat.succ_ne_self _) (Nat.ne_of_gt (Nat.lt_succ_of_lt lb)), ⟨⟨.none, he⟩, hit⟩, fun b hb => ?_, q⟩
    have e' : b = s1.heap.objs.size + 1 ∨ b = s1.heap.objs.size := by simpa using hb
    have hle : s1.heap.objs.size ≤ b := by
      rcases e' with z | z
      · rw [z]; exact Nat.le_add_right _ _
      · rw [z]; exact Nat.le_refl _
    exact I1.fpOk hle (I1.hok.fresh hle)
theorem walk_enumT {K : PySem.W.Frag} {b : Addr} {ys : List V} : Walk (ItET K b) ys.length (fun H => SqT K H b ys) (fun i H v H' => ∃ T y, v = .ref T ∧ H T = none ∧ H' = upd H T (.tup [.int (i : Nat), y]) ∧ ys[i]? = some y) :=
  ⟨fun i H hi q => ⟨ys, q, hi⟩, fun H q => ⟨ys, q, rfl⟩, fun i H v H' hi q ⟨T, y, e1, e2, e3, e5⟩ => ⟨T, y, e1, e2, e3, e5 ys q⟩⟩
end SD
set_option Elab.async false
set_option linter.all false
set_option maxRecDepth 100000
set_option maxHeartbeats 2000000
namespace SD
open PySem PySem.Spec PyProof.Rows L2 PySem.SeqAt
/-! a list beside an empty one -/
def rEqNil (K : PySem.W.Frag) (neg : Bool) : R2 := fun x y H Q => ∃ a b xs, x = .ref a ∧ y = .ref b ∧ SqL K H a xs ∧ SqL K H b [] ∧ Q (.bl (if neg then !xs.isEmpty else xs.isEmpty)) H
theorem op_eqNil {X : Cx} (hu : X.A.units + 1 < cLine) : OpR X (compareOp .Eq) (rEqNil X.K false) := by
  intro pins s σ H x y v u Q I rx ry h
  obtain ⟨a, b, xs, rfl, rfl, ha, hb, q⟩ := h
  cases rx; cases ry
  obtain ⟨i1, r1, p1, _⟩ := I.list ha
  obtain ⟨i2, r2, p2, _⟩ := I.list hb
  cases r2
  cases xs with
  | nil =>
    cases r1
    refine eq_listAt (e := fun _ => true) p1.isList p2.isList rfl (Nat.lt_of_le_of_lt (Nat.le_succ _) hu) (fun j h1 => by simp at h1) ?_
    exact ⟨.bl _, H, I, rfl, q⟩
  | cons x0 xs =>
    cases r1
    refine eq_list_lengthsAt p1.isList p2.isList (by simp) (Nat.lt_of_le_of_lt (Nat.le_succ _) hu) ?_
    exact ⟨.bl _, H, I, rfl, q⟩
theorem op_neNil {X : Cx} (hu : X.A.units + 1 < cLine) : OpR X (compareOp .NotEq) (rEqNil X.K true) := by
  intro pins s σ H x y v u Q I rx ry h
  obtain ⟨a, b, xs, rfl, rfl, ha, hb, q⟩ := h
  cases rx; cases ry
  obtain ⟨i1, r1, p1, _⟩ := I.list ha
  obtain ⟨i2, r2, p2, _⟩ := I.list hb
  cases r2
  cases xs with
  | nil =>
    cases r1
    refine (RcNeAt.lists (e := fun _ => true) p1.isList p2.isList rfl (Nat.lt_of_le_of_lt (Nat.le_succ _) hu) (fun j h1 => by simp at h1)) X.prog X.w _ _ ?_
    exact ⟨.bl _, H, I, rfl, q⟩
  | cons x0 xs =>
    cases r1
    refine (RcNeAt.lists_lengths p1.isList p2.isList (by simp) (Nat.lt_of_le_of_lt (Nat.le_succ _) hu)) X.prog X.w _ _ ?_
    exact ⟨.bl _, H, I, rfl, q⟩

/-! d.get(k, x) of a dict of the top with text keys -/
def KTab (K : PySem.W.Frag) (w : World) (d : Addr) (f : Str → Option V) : Prop :=
  ∃ es n, KDict K w d es n ∧ ∀ z, ∃ r, PySem.W.nsIn K d z = some r ∧ RelO (f z) r
def tKGet (K : PySem.W.Frag) (w : World) (td ty tx : TE) : TE := fun σ H Q => td σ H fun x H1 => ∃ d f, x = .ref d ∧ KTab K w d f ∧ ty σ H1 fun y H2 => tx σ H2 fun z H3 => ∃ k, y = .str k ∧ Q ((f k).getD z) H3
def rKItem (K : PySem.W.Frag) (w : World) : R2 := fun x y H Q => ∃ d k f v, x = .ref d ∧ y = .str k ∧ KTab K w d f ∧ f k = some v ∧ Q v H
theorem relO_some {v : V} {r : Option Value} (h : RelO (some v) r) : ∃ u, r = some u ∧ RelV v u := by
  cases r with
  | none => exact h.elim
  | some u => exact ⟨u, rfl, h⟩
theorem relO_getD {o : Option V} {r : Option Value} {z : V} {u : Value} (h : RelO o r) (hz : RelV z u) : RelV (o.getD z) (r.getD u) := by
  cases o with
  | none => cases r with
    | none => exact hz
    | some _ => exact h.elim
  | some v => cases r with
    | none => exact h.elim
    | some _ => exact h
section
variable {X : Cx} {o e f : Expr} {apos cpos : Pos} {td ty tx : TE}
theorem ix_ktab : IxR X (rKItem X.K X.w) := by
  intro value slice pins s σ H x y v u Q I rx ry h hs
  obtain ⟨d, k, f, v0, rfl, rfl, ⟨es, n, D, hf⟩, hk, q⟩ := h
  obtain ⟨r, e, ro⟩ := hf k
  rw [hk] at ro
  obtain ⟨u0, rfl, ru⟩ := relO_some ro
  exact ix_kdict value slice pins s σ H _ _ v u Q I rx ry ⟨d, k, v0, rfl, rfl, ⟨es, n, u0, D.at_, D.lit, e, ru⟩, q⟩ hs
theorem pe_kget (ho : PE X o td) (he : PE X e ty) (hf : PE X f tx) (m : M2 X o "get" apos e f cpos) : PE X (.Call (.Attribute o "get" apos) [e, f] [] cpos) (tKGet X.K X.w td ty tx) := by
  refine ⟨fun pins s σ H Q I h => ?_⟩
  refine wpAny_Call_method m.base m.few m.line PySem.F.plainAttrs_dict PySem.F.slot_dict_get PySem.F.type_dict_get (thn (ho.run pins s σ H _ I h) fun u s1 ⟨x, H1, I1, rx, d, g, ex, ⟨es, n, D, hg⟩, q1⟩ => ?_)
  subst ex
  obtain rfl : u = Value.ref d := rx
  have hm := PySem.W.mapOf_K (prog := X.prog) (w := X.w) I1.kIn D.at_ D.lit
  refine ⟨hm.typeIs, fun b q => ?_, ?_⟩
  · cases q
    exact ⟨_, I1.kIn _ _ D.at_, rfl⟩
  rw [m.trees]
  refine Calls.callWith_builtin rfl (Calls.evalArgs_plain (Calls.spliced_cons (thn (he.run pins s1 σ H1 _ I1 q1) fun iv s2 ⟨y, H2, I2, ry, q2⟩ =>
    Calls.spliced_cons (thn (hf.run pins s2 σ H2 _ I2 q2) fun fv s3 ⟨z, H3, I3, rz, k, ey, q3⟩ => Calls.spliced_nil ?_))))
  subst ey
  obtain ⟨t, rfl⟩ := ry
  obtain ⟨r, en, ro⟩ := hg k
  have hm3 := PySem.W.mapOf_K (prog := X.prog) (w := X.w) I3.kIn D.at_ D.lit
  refine call_meetsIn PySem.F.slot_dict_get hm3.typeIs PySem.F.entry_dict_get (PySem.F.args_dict_get_3 _ _ _) (meets_dict_get_default (strKind X.prog X.w) d (strKind_is X.prog X.w k t) D.low fv) ⟨_, hm3, ?_⟩
  rw [PySem.W.find_K D.at_ en]
  exact ⟨_, H3, I3.tok _, relO_getD ro rz, q3⟩
end

/-! lists that no one changes any more: locked as they stand -/
def Frzd (L : Addr → Prop) (H H' : Hp) : Prop := ∀ b, (H' b = H b ∧ (L b → ∀ xs, H b ≠ some (.lst xs))) ∨ (L b ∧ ∃ xs o, H b = some (.lst xs) ∧ H' b = some (.frz o (.lst xs)))
open Classical in
theorem Inv.freeze {X : Cx} {pins : List (Addr × Obj)} {σ : L2.St} {H : Hp} {s : Shared} (I : L2.Inv X pins σ H s) (L : Addr → Prop) : ∃ H', Frzd L H H' ∧ L2.Inv X pins σ H' s := by
  let H' : Hp := fun b => if L b then (match H b with
    | some (.lst xs) => (s.heap.get? b).map fun o => HO.frz o (.lst xs)
    | r => r) else H b
  have hcase : ∀ b, (H' b = H b ∧ (L b → ∀ xs, H b ≠ some (.lst xs))) ∨ (L b ∧ ∃ xs o, H b = some (.lst xs) ∧ s.heap.get? b = some o ∧ H' b = some (.frz o (.lst xs))) := by
    intro b
    by_cases hL : L b
    · cases e : H b with
      | none => exact .inl ⟨by show (if L b then _ else _) = _; rw [if_pos hL, e], fun _ xs q => nomatch q⟩
      | some u =>
        cases u with
        | lst xs =>
          obtain ⟨_, its, n, _, eo⟩ := I.hok b _ e
          exact .inr ⟨hL, xs, _, rfl, eo, by show (if L b then _ else _) = _; rw [if_pos hL, e, eo]; rfl⟩
        | _ => exact .inl ⟨by show (if L b then _ else _) = _; rw [if_pos hL, e], fun _ xs q => nomatch q⟩
    · exact .inl ⟨by show (if L b then _ else _) = _; rw [if_neg hL], fun q => absurd q hL⟩
  have keepN : ∀ b, (∀ xs, H b ≠ some (.lst xs)) → H' b = H b := fun b hn => by
    rcases hcase b with h | ⟨_, xs, o, h, _⟩
    · exact h.1
    · exact absurd h (hn xs)
  have keepS : ∀ b u, H b = some u → (∀ xs, u ≠ .lst xs) → H' b = some u := fun b u e hn => by
    rw [keepN b fun xs q => hn xs (Option.some.inj (e.symm.trans q))]; exact e
  have noneN : ∀ b, H b = none → H' b = none := fun b e => by rw [keepN b fun xs q => by rw [e] at q; cases q]; exact e
  refine ⟨H', fun b => ?_, ?_⟩
  · rcases hcase b with h | ⟨hL, xs, o, h1, _, h2⟩
    · exact .inl h
    · exact .inr ⟨hL, xs, o, h1, h2⟩
  · refine ⟨I.ok, I.os, I.bare, ⟨fun b o e n hb hx => I.base.keep b o e n hb hx, fun b o e n hb hx => I.base.slot b o e n hb hx, fun b o e n hx => noneN b (I.base.free b o e n hx), fun b o e hx => I.base.there b o e hx, fun b xs e => keepS b _ (I.base.tups b xs e) (fun _ q => nomatch q), fun b o u e => keepS b _ (I.base.frzs b o u e) (fun _ q => nomatch q), fun b ps e => ?_⟩, I.loc, I.cell, noneN _ I.free, fun x c e => noneN c (I.freeC x c e), fun p hp => ?_, fun b u e => ?_, I.len⟩
    · obtain ⟨more, q⟩ := I.base.tbls b ps e
      exact ⟨more, keepS b _ q (fun _ q => nomatch q)⟩
    · obtain ⟨a1, a2, a3⟩ := I.pin p hp
      exact ⟨a1, noneN _ a2, a3⟩
    · have stay : ∀ v, ObjOk X.prog X.w H s.heap b v → ObjOk X.prog X.w H' s.heap b v := fun v x =>
        x.stay (fun _ _ _ q => q) (fun c q => keepS c _ q (fun _ q => nomatch q)) (fun c xs q => keepS c _ q (fun _ q => nomatch q))
      rcases hcase b with ⟨h, _⟩ | ⟨hL, xs, o, h1, h2, h3⟩
      · rw [h] at e
        exact stay u (I.hok b u e)
      · rw [h3] at e
        cases e
        exact ⟨h2, stay _ (I.hok b _ h1)⟩
def tFrz (t : TE) (L : V → Hp → Addr → Prop) : TE := fun σ H Q => t σ H fun v H1 => ∀ H2, Frzd (L v H1) H1 H2 → Q v H2
theorem pe_frz {X : Cx} {e : Expr} {t : TE} (L : V → Hp → Addr → Prop) (he : PE X e t) : PE X e (tFrz t L) := by
  refine ⟨fun pins s σ H Q I h => thn (he.run pins s σ H _ I h) fun u s1 ⟨v, H1, I1, rv, q⟩ => ?_⟩
  obtain ⟨H2, fz, I2⟩ := Inv.freeze I1 (L v H1)
  exact ⟨v, H2, I2, rv, q H2 fz⟩
end SD
set_option Elab.async false
set_option linter.all false
set_option maxRecDepth 100000
set_option maxHeartbeats 2000000
namespace SD
open PySem PySem.Spec PyProof.Rows L2
open C8 (Cal Met Mak pe_c pe_mk pe_mt pe_mt0 pe_gc)
abbrev rIsN : R2 := fun x y H Q => y = .non ∧ Q (.bl (decide (x = .non))) H
abbrev rNotN : R2 := fun x y H Q => y = .non ∧ Q (.bl (!decide (x = .non))) H
abbrev rInS : R2 := fun x y H Q => ∃ (c : Nat) (z : Str), x = .str ⟨#[c]⟩ ∧ y = .str z ∧ Q (.bl (decide (c ∈ z.cps.toList))) H
abbrev rNotInS : R2 := fun x y H Q => ∃ (c : Nat) (z : Str), x = .str ⟨#[c]⟩ ∧ y = .str z ∧ Q (.bl (!decide (c ∈ z.cps.toList))) H
abbrev rAddStr : R2 := fun x y H Q => ∃ i j, x = .str i ∧ y = .str j ∧ i.length + j.length ≤ sizeLine ∧ Q (.str (i ++ j)) H
abbrev rLenS' (K : PySem.W.Frag) : List V → Hp → VK → Prop := fun xs H Q => ∃ p ys, xs = [.ref p] ∧ (SqL K H p ys ∨ SqT K H p ys) ∧ Q (.int ys.length) H
abbrev rLenStr : List V → Hp → VK → Prop := fun xs H Q => ∃ z, xs = [.str z] ∧ z.length ≤ sizeLine ∧ Q (.int z.length) H
abbrev rInt1 : List V → Hp → VK → Prop := fun xs H Q => (∃ i, xs = [.int i] ∧ Q (.int i) H) ∨ ∃ k, xs = [.bl k] ∧ Q (.int (if k then 1 else 0)) H
abbrev rIntStr : List V → Hp → VK → Prop := fun xs H Q => ∃ a n, xs = [.str a] ∧ PySem.intText? a = some n ∧ a.length ≤ 640 ∧ Q (.int n) H
abbrev rStrInt : List V → Hp → VK → Prop := fun xs H Q => ∃ i : Int, xs = [.int i] ∧ i.natAbs.log2 < 1920 ∧ Q (.str (toString i)) H
abbrev rListOf (K : PySem.W.Frag) : List V → Hp → VK → Prop := fun xs H Q => ∃ p ys, xs = [.ref p] ∧ (SqL K H p ys ∨ SqT K H p ys) ∧ ∀ l, H l = none → Q (.ref l) (upd H l (.lst ys))
abbrev rTupleOf (K : PySem.W.Frag) : List V → Hp → VK → Prop := fun xs H Q => ∃ p ys, xs = [.ref p] ∧ ((SqL K H p ys ∧ ∀ l, H l = none → Q (.ref l) (upd H l (.tup ys))) ∨ (SqT K H p ys ∧ Q (.ref p) H))
abbrev rSortedDI : List V → Hp → VK → Prop := fun xs H Q => ∃ (a : Addr) (kvs : List (Key × V)) (ks : List Int), xs = [.ref a] ∧ Rd H a (.dK kvs) ∧ kvs.map (·.1) = ks.map Sum.inl ∧ ks.length < 64 ∧
    ∀ (ys : List Int) (p : Addr), ys.Perm ks → ys.Pairwise (· ≤ ·) → H p = none → Q (.ref p) (upd H p (.lst (ys.map V.int)))
/-! isinstance with a built-in class -/
def IsiOf (K : PySem.W.Frag) (H : Hp) (x : V) (n : String) (b : Bool) : Prop := ∃ t, TyX K H x (.type t) ∧ PySem.W.kitOne K (.type t) (.type n) = some b
abbrev rIsi' (K : PySem.W.Frag) : List V → Hp → VK → Prop := fun xs H Q => ∃ x n b, xs = [x, .ty n] ∧ IsiOf K H x n b ∧ Q (.bl b) H
theorem call_isi' {X : Cx} : CallR X (.builtin "isinstance") (rIsi' X.K) := by
  intro pins s σ H xs us Q I r q
  obtain ⟨x, n, b, rfl, ⟨t, h1, h2⟩, q⟩ := q
  exact call_isi pins s σ H _ us Q I r ⟨x, .ty n, _, _, b, rfl, .ty n, h1, h2, q⟩
/-! locking behind an expression, a statement -/
def tFrzE (t : TE) : TE := fun σ H Q => t σ H fun v H1 => ∃ L : Addr → Prop, ∀ H2, Frzd L H1 H2 → Q v H2
theorem pe_frzE {X : Cx} {e : Expr} {t : TE} (he : PE X e t) : PE X e (tFrzE t) := by
  refine ⟨fun pins s σ H Q I h => thn (he.run pins s σ H _ I h) fun u s1 ⟨v, H1, I1, rv, L, q⟩ => ?_⟩
  obtain ⟨H2, fz, I2⟩ := Inv.freeze I1 L
  exact ⟨v, H2, I2, rv, q H2 fz⟩
def tFrzS (t : TS) : TS := fun D σ H => t { D with nx := fun σ1 H1 => ∃ L : Addr → Prop, ∀ H2, Frzd L H1 H2 → D.nx σ1 H2 } σ H
theorem ps_frzS {X : Cx} {st : Stmt} {t : TS} (h : PS X st t) : PS X st (tFrzS t) := by
  refine ⟨fun pins s σ H D I q => thn (h.run pins s σ H _ I q) fun f s1 r => ?_⟩
  cases f with
  | next =>
    obtain ⟨σ1, H1, I1, L, q1⟩ := r
    obtain ⟨H2, fz, I2⟩ := Inv.freeze I1 L
    exact ⟨σ1, H2, I2, q1 H2 fz⟩
  | brk => exact r
  | cont => exact r
  | ret u => exact r
section
variable {X : Cx} {k j : Nat} {C : Addr} {x m : Str} {sp : Sp} {dvs : List V} {p pos apos : Pos}
theorem pe_c0 (c : Cal X.prog X.w X.K X.mg X.base k x sp dvs) (hr : Room j X.A) (hk : k ≤ j) (hg : Gl X x) (hdb : (x == ("__debug__" : Str)) = false := by decide) :
    PE X (.Call (.Name x p) [] [] pos) (tCall sp dvs E0 tNil) := by
  obtain ⟨f, fd, ps, ds, F, hm, kp, b, d⟩ := c.ex
  exact pe_call0 F (hr.mono hk) hg hm kp b d pass0 hdb
theorem pe_mk0 (c : Mak X.prog X.w X.K X.mg X.base k x C sp dvs) (hr : Room j X.A) (hk : k + 1 ≤ j) (hg : Gl X x) (hdb : (x == ("__debug__" : Str)) = false := by decide) :
    PE X (.Call (.Name x p) [] [] pos) (tMake C sp dvs E0 tNil) := by
  obtain ⟨f, fd, ps, ds, M, F, hm, b, d⟩ := c.ex
  exact pe_make0 M F (hr.mono hk) hg hm b d pass0 hdb
end
theorem mono_cal {P w K mg base k j x sp dvs} (c : Cal P w K mg base k x sp dvs) (h : k ≤ j) : Cal P w K mg base j x sp dvs := by
  obtain ⟨f, fd, ps, ds, F, r⟩ := c.ex
  exact ⟨f, fd, ps, ds, F.mono h, r⟩
theorem mono_met {P w K mg base k j C m sp dvs} (c : Met P w K mg base k C m sp dvs) (h : k ≤ j) : Met P w K mg base j C m sp dvs := by
  obtain ⟨f, fd, ps, ds, c1, c2, F, r⟩ := c.ex
  exact ⟨f, fd, ps, ds, c1, c2, F.mono h, r⟩
/-! a def of the text by what the head tells -/
section
variable {P : Program} {w : World} {K : PySem.W.Frag} {mg : Str → Option Value} {base : Heap} {x qual : Str} {st : Stmt} {f : Addr} {fd : FuncData} {N ps : List Str} {k : Nat} {sp : Sp}
abbrev FD (K : PySem.W.Frag) (x qual : Str) (st : Stmt) (f : Addr) : Prop := ∃ fd, FunD K x qual (defArgs st) (defBody st) (defScope st) [] [] f fd
theorem fnD (F : FunD K x qual (defArgs st) (defBody st) (defScope st) [] [] f fd) (S : FnScope N ps (defScope st)) (len : ∀ vs H Q E, sp vs H Q E → vs.length = ps.length) {t : TS}
    (hb : ∀ (cdv : Value) (A : Around) (outer : List Env) (s : Shared) (H : Hp) (vs : List V) (Q : VK) (E : XK), Room k (A.deeper (envOfC qual (defScope st) s.heap.objs.size f cdv)) →
      PSs (cxOf CX0 P w K mg base N qual (defScope st) f cdv A outer s H E).nox (defBody st) t)
    (pure_ : ∀ vs H Q E, sp vs H Q E → t { nx := fun _ H' => Q .non H', rt := Q } (start N vs) H) : FnOk P w K mg base CX0 (k + 1) f fd ps sp :=
  FunD.ok F S len fun cdv A outer s H vs Q E hr h => ⟨t, (hb cdv A outer s H vs Q E hr).nox, pure_ vs H Q E h⟩
end
end SD
namespace SD
open PySem PySem.Spec PyProof.Rows L2
abbrev rLenD : List V → Hp → VK → Prop := fun xs H Q => ∃ a kvs, xs = [V.ref a] ∧ H a = some (.dK kvs) ∧ Q (.int kvs.length) H
/-- a op1 b op2 c op3 d -/
def tChain3 (r r' r'' : R2) (ta tb tc td : TE) : TE := fun σ H Q => ta σ H fun x H1 => tb σ H1 fun y H2 => r x y H2 fun z H3 => ∃ k, z = .bl k ∧
  (if k = true then tc σ H3 fun w' H4 => r' y w' H4 (fun z' H5 => ∃ k', z' = .bl k' ∧ (if k' = true then td σ H5 fun u' H6 => r'' w' u' H6 Q else Q (.bl false) H5)) else Q (.bl false) H3)
theorem pt_chain3 {X : Cx} {op op' op'' : CmpOp} {r r' r'' : R2} {a b c d : Expr} {ta tb tc td : TE} {pos : Pos} (ho : OpR X (compareOp op) r) (ho' : OpR X (compareOp op') r') (ho'' : OpR X (compareOp op'') r'') (ha : PE X a ta) (hb : PE X b tb) (hc : PE X c tc) (hd : PE X d td)
    (hm : lastMarks [op, op', op''] [b, c, d] = false := by with_unfolding_all rfl) : PT X (.Compare a [op, op', op''] [b, c, d] pos) (tTest (tChain3 r r' r'' ta tb tc td)) := by
  refine ⟨fun pins s σ H Q I h => ?_⟩
  refine isTrue_chain (thn (ha.run pins s σ H _ I h) fun v s1 ⟨x, H1, I1, r1, q1⟩ => test_link (thn (hb.run pins s1 σ H1 _ I1 q1) fun u s2 ⟨y, H2, I2, r2, q2⟩ =>
    thn (ho pins s2 σ H2 x y v u _ I2 r1 r2 q2) fun d s3 ⟨z, H3, I3, r3, k, e, q3⟩ => ?_)) hm
  subst e
  cases r3
  refine wpAny_truthy_bool ?_
  cases k with
  | false =>
    obtain ⟨k', e', q'⟩ := q3
    cases e'
    exact ite_ff ⟨H3, I3, q'⟩
  | true =>
    refine ite_tt (test_link (thn (hc.run pins s3 σ H3 _ I3 q3) fun w' s4 ⟨z', H4, I4, r4, q4⟩ => thn (ho' pins s4 σ H4 y z' u w' _ I4 r2 r4 q4) fun d5 s5 ⟨z5, H5, I5, r5, k5, e5, q5⟩ => ?_))
    subst e5
    cases r5
    refine wpAny_truthy_bool ?_
    cases k5 with
    | false =>
      obtain ⟨k', e', q'⟩ := q5
      cases e'
      exact ite_ff ⟨H5, I5, q'⟩
    | true =>
      refine ite_tt (test_last (thn (hd.run pins s5 σ H5 _ I5 q5) fun w6 s6 ⟨z6, H6, I6, r6, q6⟩ => thn (ho'' pins s6 σ H6 z' z6 w' w6 _ I6 r4 r6 q6) fun d7 s7 ⟨z7, H7, I7, r7, k7, e7, q7⟩ => ?_))
      subst e7
      cases r7
      exact wpAny_truthy_bool ⟨H7, I7, q7⟩
end SD
/-! S1: programs as data, what is checked of them, their machine. Plain Lean. Own work. -/
set_option linter.all false
namespace SD
inductive Op2 where | add | take | times | less | same deriving DecidableEq, Repr
inductive Pt where
  | num (n : Int) | name (k : Nat) | cell (k : Nat) | two (o : Op2) (a b : Pt)
  deriving DecidableEq, Repr
inductive Dd where
  | set (k : Nat) (x : Pt) | put (c : Nat) (x : Pt) | say (x : Pt) | iff (x : Pt) (a b : List Dd)
  | again (x : Pt) (b : List Dd) | call (f : Nat) (xs : List Pt) (k : Nat) | ret (x : Pt)
  deriving Repr
structure Fn where
  params : Nat
  names : Nat
  body : List Dd
structure Prog where
  cells : List Int
  funs : List Fn
  hands : List Nat
abbrev REST : Int := 10007
/-! sizes, depths, what can be -/
def Pt.sz : Pt → Nat
  | .two _ a b => 1 + a.sz + b.sz
  | _ => 1
def Pt.dp : Pt → Nat
  | .two _ a b => 1 + max a.dp b.dp
  | _ => 1
def Pt.wf (names cells : Nat) : Pt → Bool
  | .num n => decide (0 ≤ n) && decide (n < REST)
  | .name k => decide (k < names)
  | .cell k => decide (k < cells)
  | .two _ a b => a.wf names cells && b.wf names cells
def szPs : List Pt → Nat
  | [] => 0
  | p :: r => p.sz + szPs r
def dpPs : List Pt → Nat
  | [] => 0
  | p :: r => max p.dp (dpPs r)
def wfPs (names cells : Nat) : List Pt → Bool
  | [] => true
  | p :: r => p.wf names cells && wfPs names cells r
mutual
def Dd.sz : Dd → Nat
  | .set _ x => 1 + x.sz | .put _ x => 1 + x.sz | .say x => 1 + x.sz | .iff x a b => 1 + x.sz + szDs a + szDs b
  | .again x b => 1 + x.sz + szDs b | .call _ xs _ => 1 + szPs xs | .ret x => 1 + x.sz
def szDs : List Dd → Nat
  | [] => 0
  | d :: r => d.sz + szDs r
end
mutual
def Dd.dp : Dd → Nat
  | .set _ x => 1 + x.dp | .put _ x => 1 + x.dp | .say x => 1 + x.dp | .iff x a b => 1 + max x.dp (max (dpDs a) (dpDs b))
  | .again x b => 1 + max x.dp (dpDs b) | .call _ xs _ => 1 + dpPs xs | .ret x => 1 + x.dp
def dpDs : List Dd → Nat
  | [] => 0
  | d :: r => max d.dp (dpDs r)
end
mutual
def Dd.wf (names cells : Nat) (params : List Nat) : Dd → Bool
  | .set k x => decide (k < names) && x.wf names cells
  | .put c x => decide (c < cells) && x.wf names cells
  | .say x => x.wf names cells
  | .iff x a b => x.wf names cells && (wfDs names cells params a && wfDs names cells params b)
  | .again x b => x.wf names cells && wfDs names cells params b
  | .call f xs k => decide (params[f]? = some xs.length) && (decide (k < names) && wfPs names cells xs)
  | .ret x => x.wf names cells
def wfDs (names cells : Nat) (params : List Nat) : List Dd → Bool
  | [] => true
  | d :: r => d.wf names cells params && wfDs names cells params r
end
def Prog.params (p : Prog) : List Nat := p.funs.map Fn.params
structure Prog.Wf (p : Prog) : Prop where
  cells1 : 1 ≤ p.cells.length
  cells8 : p.cells.length ≤ 8
  cellsR : ∀ c ∈ p.cells, 0 ≤ c ∧ c < REST
  funs1 : 1 ≤ p.funs.length
  funs4 : p.funs.length ≤ 4
  names : ∀ f ∈ p.funs, f.params ≤ f.names ∧ f.names ≤ 4
  hands1 : 1 ≤ p.hands.length
  hands3 : p.hands.length ≤ 3
  handsR : ∀ h ∈ p.hands, p.params[h]? = some 0
  bodies : ∀ f ∈ p.funs, wfDs f.names p.cells.length p.params f.body = true
  deep : ∀ f ∈ p.funs, dpDs f.body ≤ 8
  size : (p.funs.map fun f => szDs f.body).sum ≤ 100
def Prog.wfb (p : Prog) : Bool :=
  decide (1 ≤ p.cells.length) && (decide (p.cells.length ≤ 8) && (p.cells.all (fun c => decide (0 ≤ c) && decide (c < REST)) && (decide (1 ≤ p.funs.length) && (decide (p.funs.length ≤ 4) &&
  (p.funs.all (fun f => decide (f.params ≤ f.names) && decide (f.names ≤ 4)) && (decide (1 ≤ p.hands.length) && (decide (p.hands.length ≤ 3) && (p.hands.all (fun h => decide (p.params[h]? = some 0)) &&
  (p.funs.all (fun f => wfDs f.names p.cells.length p.params f.body) && (p.funs.all (fun f => decide (dpDs f.body ≤ 8)) && decide ((p.funs.map fun f => szDs f.body).sum ≤ 100)))))))))))
theorem Prog.wf_of {p : Prog} (h : p.wfb = true) : p.Wf := by
  simp only [Prog.wfb, Bool.and_eq_true, decide_eq_true_eq, List.all_eq_true] at h
  obtain ⟨a1, a2, a3, a4, a5, a6, a7, a8, a9, a10, a11, a12⟩ := h
  exact ⟨a1, a2, a3, a4, a5, a6, a7, a8, a9, a10, a11, a12⟩
theorem szPt_pos (p : Pt) : 1 ≤ p.sz := by cases p <;> simp [Pt.sz] <;> omega
theorem szDd_pos (d : Dd) : 1 ≤ d.sz := by cases d <;> simp [Dd.sz] <;> omega

/-! deeds with their places -/
inductive ND where
  | mk (place : Nat) (d : Dd) (inner : List (List ND))
def ND.place : ND → Nat | .mk p _ _ => p
def ND.d : ND → Dd | .mk _ d _ => d
def ND.inner : ND → List (List ND) | .mk _ _ i => i
mutual
def numD : Dd → Nat → ND × Nat
  | .iff x a b, n => let r := numDs a (n + 1); let q := numDs b r.2; (.mk n (.iff x a b) [r.1, q.1], q.2)
  | .again x b, n => let r := numDs b (n + 1); (.mk n (.again x b) [r.1], r.2)
  | .set k x, n => (.mk n (.set k x) [], n + 1)
  | .put k x, n => (.mk n (.put k x) [], n + 1)
  | .say x, n => (.mk n (.say x) [], n + 1)
  | .call f xs k, n => (.mk n (.call f xs k) [], n + 1)
  | .ret x, n => (.mk n (.ret x) [], n + 1)
def numDs : List Dd → Nat → List ND × Nat
  | [], n => ([], n)
  | d :: r, n => let q := numD d n; let s := numDs r q.2; (q.1 :: s.1, s.2)
end
def numFs : List Fn → Nat → List (List ND) × Nat
  | [], n => ([], n)
  | f :: r, n => let q := numDs f.body n; let s := numFs r q.2; (q.1 :: s.1, s.2)
/-! of each place its fun -/
mutual
def Dd.cnt : Dd → Nat
  | .iff _ a b => 1 + cntDs a + cntDs b
  | .again _ b => 1 + cntDs b
  | .set _ _ => 1 | .put _ _ => 1 | .say _ => 1 | .call _ _ _ => 1 | .ret _ => 1
def cntDs : List Dd → Nat
  | [] => 0
  | d :: r => d.cnt + cntDs r
end
def plFuns : List Fn → Nat → List Nat
  | [], _ => []
  | f :: r, i => List.replicate (cntDs f.body) i ++ plFuns r (i + 1)
def Prog.nbodies (p : Prog) : List (List ND) := (numFs p.funs 0).1
def Prog.pfuns (p : Prog) : List Nat := plFuns p.funs 0

/-! what parts come to -/
def Op2.ev (o : Op2) (i j : Int) : Int := match o with
  | .add => (i + j) % REST | .take => (i - j) % REST | .times => (i * j) % REST
  | .less => if i < j then 1 else 0 | .same => if i = j then 1 else 0
def Pt.ev (names cells : List Int) : Pt → Int
  | .num n => n
  | .name k => names.getD k 0
  | .cell k => cells.getD k 0
  | .two o a b => o.ev (a.ev names cells) (b.ev names cells)

/-! the machine -/
inductive Task where
  | body (b : List ND) | deed (d : ND) | loop (n : Nat) (b : List ND) | into (k : Nat)
structure Fr where
  fn : Nat
  names : List Int
  todo : List Task      -- the next first
  at_ : Option Nat
structure Mach where
  bodies : List (List ND)
  heads : List (Nat × Nat)
  held : List Int
  hands : List (List Fr)   -- the innermost first
  whose : Nat
  talk : List (Nat × Int)
  done : Nat
  pf : List Nat
def setAt (xs : List Int) (k : Nat) (v : Int) : List Int := xs.set k v
/-- a fun ends, and tells a number: the frame under it -/
def backF (v : Int) : List Fr → List Fr
  | [] => []
  | f :: r => (match f.todo with
    | .into k :: t => { f with todo := t, names := f.names.set k v } :: r
    | _ => f :: r)
def unfoldT : Task → List Task → List Task
  | .body b, t => b.map Task.deed ++ t
  | .loop 0 _, t => t
  | .loop (n + 1) b, t => .body b :: .loop n b :: t
  | x, t => x :: t
/-- one turn of settle; none: settled -/
def settle1 : List Fr → Option (List Fr)
  | [] => none
  | f :: r => match f.todo with
    | [] => some (backF 0 r)
    | .deed _ :: _ => none
    | t :: ts => some ({ f with todo := unfoldT t ts } :: r)
def Task.wt : Task → Nat
  | .body _ => 1 | .deed _ => 0 | .loop n _ => 2 * n + 1 | .into _ => 1
def wtT : List Task → Nat
  | [] => 0
  | t :: r => t.wt + wtT r
def wtF : List Fr → Nat
  | [] => 0
  | f :: r => 1 + wtT f.todo + wtF r
def settleN : Nat → List Fr → List Fr
  | 0, fs => fs
  | n + 1, fs => match settle1 fs with
    | none => fs
    | some fs' => settleN n fs'
def settle (fs : List Fr) : List Fr := settleN (wtF fs) fs
def Mach.isOver (m : Mach) : Bool := m.hands.all (·.isEmpty)
def seekN : Nat → List (List Fr) → Nat → Nat
  | 0, _, w => w
  | n + 1, hs, w => seekN n hs (if (hs.getD w []).isEmpty then (w + 1) % hs.length else w)
def seek (hs : List (List Fr)) (w : Nat) : Nat := seekN hs.length hs w
def mkFrame (bodies : List (List ND)) (heads : List (Nat × Nat)) (f : Nat) (ws : List Int) : Fr :=
  ⟨f, ws ++ List.replicate ((heads.getD f (0, 0)).2 - ws.length) 0, [.body (bodies.getD f [])], none⟩
def Prog.heads (p : Prog) : List (Nat × Nat) := p.funs.map fun f => (f.params, f.names)
def Prog.mach (p : Prog) : Mach :=
  let hs := p.hands.map fun f => settle [mkFrame p.nbodies p.heads f []]
  ⟨p.nbodies, p.heads, p.cells, hs, seek hs 0, [], 0, p.pfuns⟩
/-- what a deed does to its hand's frames, cells, talk (before settle) -/
def doDeed (m : Mach) (me : Nat) (f : Fr) (r : List Fr) (d : ND) : List Fr × List Int × List (Nat × Int) :=
  match d.d with
  | .set k x => ({ f with names := f.names.set k (x.ev f.names m.held) } :: r, m.held, m.talk)
  | .put c x => (f :: r, m.held.set c (x.ev f.names m.held), m.talk)
  | .say x => (f :: r, m.held, m.talk ++ [(me, x.ev f.names m.held)])
  | .iff x _ _ => ({ f with todo := .body (d.inner.getD (if x.ev f.names m.held = 0 then 1 else 0) []) :: f.todo } :: r, m.held, m.talk)
  | .again x _ => ({ f with todo := .loop (x.ev f.names m.held % 10).toNat (d.inner.getD 0 []) :: f.todo } :: r, m.held, m.talk)
  | .call g xs k => if r.length + 1 = 20 then ({ f with names := f.names.set k 0 } :: r, m.held, m.talk)
      else (mkFrame m.bodies m.heads g (xs.map (·.ev f.names m.held)) :: { f with todo := .into k :: f.todo } :: r, m.held, m.talk)
  | .ret x => (backF (x.ev f.names m.held) r, m.held, m.talk)
def Mach.deed (m : Mach) : Mach :=
  match m.hands.getD m.whose [] with
  | f :: r => (match f.todo with
    | .deed d :: t =>
      let x := doDeed m m.whose { f with todo := t, at_ := some d.place } r d
      let hs := m.hands.set m.whose (settle x.1)
      { m with hands := hs, held := x.2.1, talk := x.2.2, done := m.done + 1, whose := seek hs ((m.whose + 1) % hs.length) }
    | _ => m)
  | [] => m
def runN : Nat → Mach → Mach
  | 0, m => m
  | n + 1, m => if m.isOver then m else runN n m.deed
end SD
set_option Elab.async false
set_option linter.all false
set_option maxRecDepth 100000
set_option maxHeartbeats 2000000
namespace SD
open PySem PySem.Spec PyProof.Rows L2
open C8 (Cal Met Mak pe_c pe_mk pe_mt pe_mt0 pe_gc)
/-! ### what never changes is kept -/
structure Imm (H H' : Hp) : Prop where
  tup : ∀ a xs, H a = some (.tup xs) → H' a = some (.tup xs)
  frz : ∀ a o u, H a = some (.frz o u) → H' a = some (.frz o u)
theorem Imm.refl (H : Hp) : Imm H H := ⟨fun _ _ h => h, fun _ _ _ h => h⟩
theorem Imm.trans {H1 H2 H3 : Hp} (a : Imm H1 H2) (b : Imm H2 H3) : Imm H1 H3 := ⟨fun x y h => b.tup x y (a.tup x y h), fun x y z h => b.frz x y z (a.frz x y z h)⟩
theorem Imm.new {H : Hp} {p : Addr} {o : HO} (h : H p = none) : Imm H (upd H p o) :=
  ⟨fun a xs e => by rw [upd_ne (ne_of_none e h)]; exact e, fun a u v e => by rw [upd_ne (ne_of_none e h)]; exact e⟩
def isMut : HO → Bool
  | .tup _ => false
  | .frz _ _ => false
  | _ => true
theorem Imm.upd {H : Hp} {p : Addr} {o o' : HO} (h : H p = some o) (m : isMut o = true) : Imm H (upd H p o') :=
  ⟨fun a xs e => by rw [upd_ne (fun z => by subst z; rw [h] at e; cases e; cases m)]; exact e, fun a u v e => by rw [upd_ne (fun z => by subst z; rw [h] at e; cases e; cases m)]; exact e⟩
theorem Imm.frzd {L : Addr → Prop} {H H' : Hp} (f : Frzd L H H') : Imm H H' := by
  refine ⟨fun a xs e => ?_, fun a u v e => ?_⟩
  · rcases f a with h | ⟨_, ys, o, h, _⟩
    · rw [h.1]; exact e
    · rw [e] at h; cases h
  · rcases f a with h | ⟨_, ys, o, h, _⟩
    · rw [h.1]; exact e
    · rw [e] at h; cases h
theorem pull_perm {α : Type} : ∀ {l : List α} {i : Nat} (h : i < l.length), (l[i] :: l.eraseIdx i).Perm l
  | a :: l, 0, _ => List.Perm.refl _
  | a :: l, i + 1, h => ((List.Perm.swap _ _ _).trans ((pull_perm (l := l) (i := i) (by simpa using h)).cons a))
theorem Imm.same {H H' : Hp} (s : Same H H') : Imm H H' := ⟨fun a xs e => s _ _ e, fun a o u e => s _ _ e⟩
/-- a list that is locked, or of the top -/
def SqF (K : PySem.W.Frag) (H : Hp) (a : Addr) (xs : List V) : Prop := (∃ o, H a = some (.frz o (.lst xs))) ∨
    ∃ (o : Obj) (its : Array Value) (n : Nat), K.lookup a = some o ∧ o.cls = .type "list" ∧ o.dict = none ∧ o.data = .seq its n ∧ its.size ≤ sizeLine ∧ Vals xs its.toList
theorem SqF.l {K : PySem.W.Frag} {H : Hp} {a : Addr} {xs : List V} (h : SqF K H a xs) : SqL K H a xs := by
  rcases h with h | h
  · exact .inl (.inr h)
  · exact .inr h
section
variable {K : PySem.W.Frag} {H H' : Hp}
theorem Imm.f (i : Imm H H') {a : Addr} {xs : List V} (h : SqF K H a xs) : SqF K H' a xs := by
  rcases h with ⟨o, h⟩ | h
  · exact .inl ⟨o, i.frz _ _ _ h⟩
  · exact .inr h
theorem Imm.t (i : Imm H H') {a : Addr} {xs : List V} (h : SqT K H a xs) : SqT K H' a xs := by
  rcases h with (h | ⟨o, h⟩) | h
  · exact .inl (.inl (i.tup _ _ h))
  · exact .inl (.inr ⟨o, i.frz _ _ _ h⟩)
  · exact .inr h
theorem sqf_of {L : Addr → Prop} (f : Frzd L H H') {a : Addr} {xs : List V} (hL : L a) (h : H a = some (.lst xs)) : SqF K H' a xs := by
  rcases f a with ⟨_, z⟩ | ⟨_, ys, o, e, q⟩
  · exact absurd h (z hL xs)
  · rw [h] at e; cases e; exact .inl ⟨o, q⟩
/-! ### what is held: addresses, all unlike, and what stands there -/
structure Holds (H : Hp) (L : List (Addr × HO)) : Prop where
  nd : (L.map (·.1)).Nodup
  at_ : ∀ p ∈ L, H p.1 = some p.2
variable {L L' : List (Addr × HO)} {a p : Addr} {o o' : HO}
theorem Holds.perm (h : Holds H L) (q : L.Perm L') : Holds H L' := ⟨(q.map _).nodup_iff.mp h.nd, fun p m => h.at_ p (q.mem_iff.mpr m)⟩
theorem Holds.get (h : Holds H L) (m : (a, o) ∈ L) : H a = some o := h.at_ _ m
theorem Holds.nil : Holds H [] := ⟨List.nodup_nil, fun p m => nomatch m⟩
theorem Holds.tail {x : Addr × HO} (h : Holds H (x :: L)) : Holds H L := ⟨(List.nodup_cons.mp h.nd).2, fun p m => h.at_ p (List.mem_cons_of_mem _ m)⟩
theorem Holds.head (h : Holds H ((a, o) :: L)) : H a = some o := h.at_ _ (List.mem_cons_self ..)
theorem Holds.upd (h : Holds H ((a, o) :: L)) : Holds (upd H a o') ((a, o') :: L) := by
  obtain ⟨n1, n2⟩ := List.nodup_cons.mp h.nd
  refine ⟨List.nodup_cons.mpr ⟨n1, n2⟩, fun q m => ?_⟩
  rcases List.mem_cons.mp m with e | m
  · subst e; exact upd_same
  · rw [upd_ne (fun z => n1 (List.mem_map.mpr ⟨q, m, z⟩))]; exact h.at_ _ (List.mem_cons_of_mem _ m)
theorem Holds.skip (h : Holds H L) (n : H p = none) : Holds (L2.upd H p o) L :=
  ⟨h.nd, fun q m => by rw [upd_ne (ne_of_none (h.at_ q m) n)]; exact h.at_ q m⟩
theorem Holds.new (h : Holds H L) (n : H p = none) : Holds (L2.upd H p o) ((p, o) :: L) := by
  refine ⟨List.nodup_cons.mpr ⟨fun m => ?_, h.nd⟩, fun q m => ?_⟩
  · obtain ⟨x, m1, e⟩ := List.mem_map.mp m
    have := h.at_ x m1
    rw [e, n] at this; cases this
  · rcases List.mem_cons.mp m with e | m
    · subst e; exact upd_same
    · rw [upd_ne (ne_of_none (h.at_ q m) n)]; exact h.at_ q m
theorem Holds.pull (h : Holds H L) (i : Nat) {x : Addr × HO} (e : L[i]? = some x) : Holds H (x :: L.eraseIdx i) := by
  refine h.perm ?_
  obtain ⟨hi, e⟩ := List.getElem?_eq_some_iff.mp e
  rw [← e]
  exact (pull_perm hi).symm
theorem Holds.set (h : Holds H L) (i : Nat) (e : L[i]? = some (a, o)) : Holds (L2.upd H a o') (L.set i (a, o')) := by
  obtain ⟨hi, e⟩ := List.getElem?_eq_some_iff.mp e
  have h1 := h.pull i (x := (a, o)) (by rw [List.getElem?_eq_getElem hi, e])
  refine (h1.upd (o' := o')).perm ?_
  have : (L.set i (a, o'))[i]'(by rw [List.length_set]; exact hi) = (a, o') := by simp
  have q := pull_perm (l := L.set i (a, o')) (i := i) (by rw [List.length_set]; exact hi)
  rw [this, List.eraseIdx_set_eq] at q
  exact q
theorem Holds.app (h : Holds H (L ++ L')) : Holds H (L' ++ L) := h.perm List.perm_append_comm
theorem Holds.right (h : Holds H (L ++ L')) : Holds H L' := ⟨(List.nodup_append.mp (by have := h.nd; rwa [List.map_append] at this)).2.1, fun p m => h.at_ p (List.mem_append_right _ m)⟩
theorem Holds.left (h : Holds H (L ++ L')) : Holds H L := h.app.right
theorem Holds.frzd {F : Addr → Prop} (h : Holds H L) (f : Frzd F H H') (n : ∀ p ∈ L, ¬ F p.1) : Holds H' L :=
  ⟨h.nd, fun p m => by
    rcases f p.1 with q | ⟨q, _⟩
    · rw [q.1]; exact h.at_ p m
    · exact absurd q (n p m)⟩
theorem Holds.ne {b : Addr} {u : HO} (h : Holds H ((a, o) :: L)) (m : (b, u) ∈ L) : a ≠ b := fun e => (List.nodup_cons.mp h.nd).1 (List.mem_map.mpr ⟨_, m, e.symm⟩)
theorem Holds.imm (h : Holds H ((a, o) :: L)) (m : isMut o = true) : Imm H (L2.upd H a o') := .upd h.head m
end

/-! ### values -/
def Op2.str : Op2 → Str
  | .add => "add" | .take => "take" | .times => "times" | .less => "less" | .same => "same"
section
variable (K : PySem.W.Frag) (H : Hp)
def PtAt : Pt → V → Prop
  | .num n, v => ∃ a, v = .ref a ∧ SqT K H a [.str "num", .int n]
  | .name k, v => ∃ a, v = .ref a ∧ SqT K H a [.str "name", .int (k : Nat)]
  | .cell k, v => ∃ a, v = .ref a ∧ SqT K H a [.str "cell", .int (k : Nat)]
  | .two o x y, v => ∃ a vx vy, v = .ref a ∧ SqT K H a [.str o.str, vx, vy] ∧ PtAt x vx ∧ PtAt y vy
def PtsAt : List Pt → List V → Prop
  | [], vs => vs = []
  | p :: r, vs => ∃ v t, vs = v :: t ∧ PtAt K H p v ∧ PtsAt r t
mutual
def DdAt : Dd → V → Prop
  | .set k x, v => ∃ a vx, v = .ref a ∧ SqT K H a [.str "set", .int (k : Nat), vx] ∧ PtAt K H x vx
  | .put k x, v => ∃ a vx, v = .ref a ∧ SqT K H a [.str "put", .int (k : Nat), vx] ∧ PtAt K H x vx
  | .say x, v => ∃ a vx, v = .ref a ∧ SqT K H a [.str "say", vx] ∧ PtAt K H x vx
  | .iff x b c, v => ∃ a vx vb vc bs cs, v = .ref a ∧ SqT K H a [.str "if", vx, .ref vb, .ref vc] ∧ PtAt K H x vx ∧ SqT K H vb bs ∧ DdsAt b bs ∧ SqT K H vc cs ∧ DdsAt c cs
  | .again x b, v => ∃ a vx vb bs, v = .ref a ∧ SqT K H a [.str "again", vx, .ref vb] ∧ PtAt K H x vx ∧ SqT K H vb bs ∧ DdsAt b bs
  | .call f xs k, v => ∃ a vp ps, v = .ref a ∧ SqT K H a [.str "call", .int (f : Nat), .ref vp, .int (k : Nat)] ∧ SqT K H vp ps ∧ PtsAt K H xs ps
  | .ret x, v => ∃ a vx, v = .ref a ∧ SqT K H a [.str "return", vx] ∧ PtAt K H x vx
def DdsAt : List Dd → List V → Prop
  | [], vs => vs = []
  | d :: r, vs => ∃ v t, vs = v :: t ∧ DdAt d v ∧ DdsAt r t
end
def BodyAt (b : List Dd) (v : V) : Prop := ∃ a vs, v = .ref a ∧ SqT K H a vs ∧ DdsAt K H b vs
def FnAt (f : Fn) (v : V) : Prop := ∃ a vb, v = .ref a ∧ SqT K H a [.int (f.params : Nat), .int (f.names : Nat), vb] ∧ BodyAt K H f.body vb
def FnsAt : List Fn → List V → Prop
  | [], vs => vs = []
  | f :: r, vs => ∃ v t, vs = v :: t ∧ FnAt K H f v ∧ FnsAt r t
def ProgAt (p : Prog) (v : V) : Prop := ∃ a c f h fs, v = .ref a ∧ SqT K H a [.ref c, .ref f, .ref h] ∧ SqT K H c (p.cells.map V.int) ∧ SqT K H f fs ∧ FnsAt K H p.funs fs ∧ SqT K H h (p.hands.map fun n => V.int (n : Nat))
mutual
def NDAt : ND → V → Prop
  | .mk p d i, v => ∃ a vd vi is, v = .ref a ∧ SqT K H a [.int (p : Nat), vd, .ref vi] ∧ DdAt K H d vd ∧ SqF K H vi is ∧ NBsAt i is
def NDsAt : List ND → List V → Prop
  | [], vs => vs = []
  | d :: r, vs => ∃ v t, vs = v :: t ∧ NDAt d v ∧ NDsAt r t
def NBsAt : List (List ND) → List V → Prop
  | [], vs => vs = []
  | b :: r, vs => ∃ a xs t, vs = .ref a :: t ∧ SqF K H a xs ∧ NDsAt b xs ∧ NBsAt r t
end
def NBAt (b : List ND) (v : V) : Prop := ∃ a xs, v = .ref a ∧ SqF K H a xs ∧ NDsAt K H b xs
end
section
variable {K : PySem.W.Frag} {H H' : Hp}
theorem PtAt.mono (i : Imm H H') : ∀ {p : Pt} {v : V}, PtAt K H p v → PtAt K H' p v
  | .num n, v, ⟨a, e, h⟩ => ⟨a, e, i.t h⟩
  | .name n, v, ⟨a, e, h⟩ => ⟨a, e, i.t h⟩
  | .cell n, v, ⟨a, e, h⟩ => ⟨a, e, i.t h⟩
  | .two o x y, v, ⟨a, vx, vy, e, h, h1, h2⟩ => ⟨a, vx, vy, e, i.t h, PtAt.mono i h1, PtAt.mono i h2⟩
theorem PtsAt.mono (i : Imm H H') : ∀ {p : List Pt} {v : List V}, PtsAt K H p v → PtsAt K H' p v
  | [], v, h => h
  | p :: r, v, ⟨a, t, e, h, h1⟩ => ⟨a, t, e, h.mono i, PtsAt.mono i h1⟩
mutual
theorem DdAt.mono (i : Imm H H') : ∀ {d : Dd} {v : V}, DdAt K H d v → DdAt K H' d v
  | .set k x, v, ⟨a, vx, e, h, h1⟩ => ⟨a, vx, e, i.t h, h1.mono i⟩
  | .put k x, v, ⟨a, vx, e, h, h1⟩ => ⟨a, vx, e, i.t h, h1.mono i⟩
  | .say x, v, ⟨a, vx, e, h, h1⟩ => ⟨a, vx, e, i.t h, h1.mono i⟩
  | .iff x b c, v, ⟨a, vx, vb, vc, bs, cs, e, h, h1, h2, h3, h4, h5⟩ => ⟨a, vx, vb, vc, bs, cs, e, i.t h, h1.mono i, i.t h2, DdsAt.mono i h3, i.t h4, DdsAt.mono i h5⟩
  | .again x b, v, ⟨a, vx, vb, bs, e, h, h1, h2, h3⟩ => ⟨a, vx, vb, bs, e, i.t h, h1.mono i, i.t h2, DdsAt.mono i h3⟩
  | .call f xs k, v, ⟨a, vp, ps, e, h, h1, h2⟩ => ⟨a, vp, ps, e, i.t h, i.t h1, h2.mono i⟩
  | .ret x, v, ⟨a, vx, e, h, h1⟩ => ⟨a, vx, e, i.t h, h1.mono i⟩
theorem DdsAt.mono (i : Imm H H') : ∀ {d : List Dd} {v : List V}, DdsAt K H d v → DdsAt K H' d v
  | [], v, h => h
  | d :: r, v, ⟨a, t, e, h, h1⟩ => ⟨a, t, e, DdAt.mono i h, DdsAt.mono i h1⟩
end
theorem BodyAt.mono (i : Imm H H') {b : List Dd} {v : V} : BodyAt K H b v → BodyAt K H' b v
  | ⟨a, vs, e, h, h1⟩ => ⟨a, vs, e, i.t h, h1.mono i⟩
theorem FnAt.mono (i : Imm H H') {b : Fn} {v : V} : FnAt K H b v → FnAt K H' b v
  | ⟨a, vs, e, h, h1⟩ => ⟨a, vs, e, i.t h, h1.mono i⟩
theorem FnsAt.mono (i : Imm H H') : ∀ {d : List Fn} {v : List V}, FnsAt K H d v → FnsAt K H' d v
  | [], v, h => h
  | d :: r, v, ⟨a, t, e, h, h1⟩ => ⟨a, t, e, FnAt.mono i h, FnsAt.mono i h1⟩
theorem ProgAt.mono (i : Imm H H') {p : Prog} {v : V} : ProgAt K H p v → ProgAt K H' p v
  | ⟨a, c, f, h, fs, e, h1, h2, h3, h4, h5⟩ => ⟨a, c, f, h, fs, e, i.t h1, i.t h2, i.t h3, h4.mono i, i.t h5⟩
mutual
theorem NDAt.mono (i : Imm H H') : ∀ {d : ND} {v : V}, NDAt K H d v → NDAt K H' d v
  | .mk p d j, v, ⟨a, vd, vi, is, e, h, h1, h2, h3⟩ => ⟨a, vd, vi, is, e, i.t h, h1.mono i, i.f h2, NBsAt.mono i h3⟩
theorem NDsAt.mono (i : Imm H H') : ∀ {d : List ND} {v : List V}, NDsAt K H d v → NDsAt K H' d v
  | [], v, h => h
  | d :: r, v, ⟨a, t, e, h, h1⟩ => ⟨a, t, e, NDAt.mono i h, NDsAt.mono i h1⟩
theorem NBsAt.mono (i : Imm H H') : ∀ {d : List (List ND)} {v : List V}, NBsAt K H d v → NBsAt K H' d v
  | [], v, h => h
  | b :: r, v, ⟨a, xs, t, e, h, h1, h2⟩ => ⟨a, xs, t, e, i.f h, NDsAt.mono i h1, NBsAt.mono i h2⟩
end
theorem NBAt.mono (i : Imm H H') {b : List ND} {v : V} : NBAt K H b v → NBAt K H' b v
  | ⟨a, xs, e, h, h1⟩ => ⟨a, xs, e, i.f h, h1.mono i⟩
/-! lists of such, by place -/
theorem PtsAt.len : ∀ {p : List Pt} {v : List V}, PtsAt K H p v → v.length = p.length
  | [], v, h => by rw [show v = [] from h]; rfl
  | p :: r, v, ⟨a, t, e, h, h1⟩ => by rw [e, List.length_cons, List.length_cons, PtsAt.len h1]
theorem PtsAt.get : ∀ {p : List Pt} {v : List V} {i : Nat} {x : V}, PtsAt K H p v → v[i]? = some x → ∃ q, p[i]? = some q ∧ PtAt K H q x
  | [], v, i, x, h, e => by rw [show v = [] from h] at e; simp at e
  | p :: r, v, 0, x, ⟨a, t, e, h, h1⟩, e2 => by rw [e] at e2; simp at e2; subst e2; exact ⟨p, rfl, h⟩
  | p :: r, v, i + 1, x, ⟨a, t, e, h, h1⟩, e2 => by rw [e] at e2; exact PtsAt.get (i := i) h1 (by simpa using e2)
theorem DdsAt.len : ∀ {p : List Dd} {v : List V}, DdsAt K H p v → v.length = p.length
  | [], v, h => by rw [show v = [] from h]; rfl
  | p :: r, v, ⟨a, t, e, h, h1⟩ => by rw [e, List.length_cons, List.length_cons, DdsAt.len h1]
theorem DdsAt.get : ∀ {p : List Dd} {v : List V} {i : Nat} {x : V}, DdsAt K H p v → v[i]? = some x → ∃ q, p[i]? = some q ∧ DdAt K H q x
  | [], v, i, x, h, e => by rw [show v = [] from h] at e; simp at e
  | p :: r, v, 0, x, ⟨a, t, e, h, h1⟩, e2 => by rw [e] at e2; simp at e2; subst e2; exact ⟨p, rfl, h⟩
  | p :: r, v, i + 1, x, ⟨a, t, e, h, h1⟩, e2 => by rw [e] at e2; exact DdsAt.get (i := i) h1 (by simpa using e2)
theorem FnsAt.len : ∀ {p : List Fn} {v : List V}, FnsAt K H p v → v.length = p.length
  | [], v, h => by rw [show v = [] from h]; rfl
  | p :: r, v, ⟨a, t, e, h, h1⟩ => by rw [e, List.length_cons, List.length_cons, FnsAt.len h1]
theorem FnsAt.get : ∀ {p : List Fn} {v : List V} {i : Nat} {x : V}, FnsAt K H p v → v[i]? = some x → ∃ q, p[i]? = some q ∧ FnAt K H q x
  | [], v, i, x, h, e => by rw [show v = [] from h] at e; simp at e
  | p :: r, v, 0, x, ⟨a, t, e, h, h1⟩, e2 => by rw [e] at e2; simp at e2; subst e2; exact ⟨p, rfl, h⟩
  | p :: r, v, i + 1, x, ⟨a, t, e, h, h1⟩, e2 => by rw [e] at e2; exact FnsAt.get (i := i) h1 (by simpa using e2)
theorem NDsAt.len : ∀ {p : List ND} {v : List V}, NDsAt K H p v → v.length = p.length
  | [], v, h => by rw [show v = [] from h]; rfl
  | p :: r, v, ⟨a, t, e, h, h1⟩ => by rw [e, List.length_cons, List.length_cons, NDsAt.len h1]
theorem NDsAt.app : ∀ {p q : List ND} {v u : List V}, NDsAt K H p v → NDsAt K H q u → NDsAt K H (p ++ q) (v ++ u)
  | [], q, v, u, h, h2 => by rw [show v = [] from h]; exact h2
  | p :: r, q, v, u, ⟨a, t, e, h, h1⟩, h2 => ⟨a, t ++ u, by rw [e]; rfl, h, NDsAt.app h1 h2⟩
theorem NBsAt.app : ∀ {p q : List (List ND)} {v u : List V}, NBsAt K H p v → NBsAt K H q u → NBsAt K H (p ++ q) (v ++ u)
  | [], q, v, u, h, h2 => by rw [show v = [] from h]; exact h2
  | p :: r, q, v, u, ⟨a, xs, t, e, h, h1, h3⟩, h2 => ⟨a, xs, t ++ u, by rw [e]; rfl, h, h1, NBsAt.app h3 h2⟩
theorem NBsAt.len : ∀ {p : List (List ND)} {v : List V}, NBsAt K H p v → v.length = p.length
  | [], v, h => by rw [show v = [] from h]; rfl
  | p :: r, v, ⟨a, xs, t, e, h, h1, h3⟩ => by rw [e, List.length_cons, List.length_cons, NBsAt.len h3]
theorem NBsAt.get : ∀ {p : List (List ND)} {v : List V} {i : Nat} {x : V}, NBsAt K H p v → v[i]? = some x → ∃ q, p[i]? = some q ∧ NBAt K H q x
  | [], v, i, x, h, e => by rw [show v = [] from h] at e; simp at e
  | p :: r, v, 0, x, ⟨a, xs, t, e, h, h1, h3⟩, e2 => by rw [e] at e2; simp at e2; subst e2; exact ⟨p, rfl, a, xs, rfl, h, h1⟩
  | p :: r, v, i + 1, x, ⟨a, xs, t, e, h, h1, h3⟩, e2 => by rw [e] at e2; exact NBsAt.get (i := i) h3 (by simpa using e2)
end
end SD
set_option Elab.async false
set_option linter.all false
set_option maxRecDepth 100000
namespace SD
open PySem PySem.Spec PyProof.Rows L2
def flLooker (v0 v1 v2 v3 : V) : List (Str × V) := [("many", v0), ("params", v1), ("names", v2), ("seen", v3)]
section
variable {v0 v1 v2 v3 x : V}
theorem lkLooker_many : (flLooker v0 v1 v2 v3).lookup ("many" : Str) = some v0 := by kernel_rfl
theorem ptLooker_many : putF "many" x (flLooker v0 v1 v2 v3) = flLooker x v1 v2 v3 := by kernel_rfl
theorem lkLooker_params : (flLooker v0 v1 v2 v3).lookup ("params" : Str) = some v1 := by kernel_rfl
theorem ptLooker_params : putF "params" x (flLooker v0 v1 v2 v3) = flLooker v0 x v2 v3 := by kernel_rfl
theorem lkLooker_names : (flLooker v0 v1 v2 v3).lookup ("names" : Str) = some v2 := by kernel_rfl
theorem ptLooker_names : putF "names" x (flLooker v0 v1 v2 v3) = flLooker v0 v1 x v3 := by kernel_rfl
theorem lkLooker_seen : (flLooker v0 v1 v2 v3).lookup ("seen" : Str) = some v3 := by kernel_rfl
theorem ptLooker_seen : putF "seen" x (flLooker v0 v1 v2 v3) = flLooker v0 v1 v2 x := by kernel_rfl
theorem inLooker : (putF "seen" v3 (putF "names" v2 (putF "params" v1 (putF "many" v0 ([] : List (Str × V)))))) = flLooker v0 v1 v2 v3 := by kernel_rfl
theorem lenLooker : (flLooker v0 v1 v2 v3).length < 1000 := by show 4 < 1000; decide
theorem nmLooker_begin : (flLooker v0 v1 v2 v3).lookup ("begin" : Str) = none := by kernel_rfl
theorem nmLooker_bounds : (flLooker v0 v1 v2 v3).lookup ("bounds" : Str) = none := by kernel_rfl
theorem nmLooker_part : (flLooker v0 v1 v2 v3).lookup ("part" : Str) = none := by kernel_rfl
theorem nmLooker_body : (flLooker v0 v1 v2 v3).lookup ("body" : Str) = none := by kernel_rfl
end
def flNumberer (v0 v1 : V) : List (Str × V) := [("count", v0), ("funs", v1)]
section
variable {v0 v1 x : V}
theorem lkNumberer_count : (flNumberer v0 v1).lookup ("count" : Str) = some v0 := by kernel_rfl
theorem ptNumberer_count : putF "count" x (flNumberer v0 v1) = flNumberer x v1 := by kernel_rfl
theorem lkNumberer_funs : (flNumberer v0 v1).lookup ("funs" : Str) = some v1 := by kernel_rfl
theorem ptNumberer_funs : putF "funs" x (flNumberer v0 v1) = flNumberer v0 x := by kernel_rfl
theorem inNumberer : (putF "funs" v1 (putF "count" v0 ([] : List (Str × V)))) = flNumberer v0 v1 := by kernel_rfl
theorem lenNumberer : (flNumberer v0 v1).length < 1000 := by show 2 < 1000; decide
theorem nmNumberer_body : (flNumberer v0 v1).lookup ("body" : Str) = none := by kernel_rfl
end
def flFrame (v0 v1 v2 v3 : V) : List (Str × V) := [("fun", v0), ("names", v1), ("todo", v2), ("at", v3)]
section
variable {v0 v1 v2 v3 x : V}
theorem lkFrame_fun : (flFrame v0 v1 v2 v3).lookup ("fun" : Str) = some v0 := by kernel_rfl
theorem ptFrame_fun : putF "fun" x (flFrame v0 v1 v2 v3) = flFrame x v1 v2 v3 := by kernel_rfl
theorem lkFrame_names : (flFrame v0 v1 v2 v3).lookup ("names" : Str) = some v1 := by kernel_rfl
theorem ptFrame_names : putF "names" x (flFrame v0 v1 v2 v3) = flFrame v0 x v2 v3 := by kernel_rfl
theorem lkFrame_todo : (flFrame v0 v1 v2 v3).lookup ("todo" : Str) = some v2 := by kernel_rfl
theorem ptFrame_todo : putF "todo" x (flFrame v0 v1 v2 v3) = flFrame v0 v1 x v3 := by kernel_rfl
theorem lkFrame_at : (flFrame v0 v1 v2 v3).lookup ("at" : Str) = some v3 := by kernel_rfl
theorem ptFrame_at : putF "at" x (flFrame v0 v1 v2 v3) = flFrame v0 v1 v2 x := by kernel_rfl
theorem inFrame : (putF "at" v3 (putF "todo" v2 (putF "names" v1 (putF "fun" v0 ([] : List (Str × V)))))) = flFrame v0 v1 v2 v3 := by kernel_rfl
theorem lenFrame : (flFrame v0 v1 v2 v3).length < 1000 := by show 4 < 1000; decide
end
def flMachine (v0 v1 v2 v3 v4 v5 v6 : V) : List (Str × V) := [("bodies", v0), ("heads", v1), ("held", v2), ("hands", v3), ("whose", v4), ("talk", v5), ("done", v6)]
section
variable {v0 v1 v2 v3 v4 v5 v6 x : V}
theorem lkMachine_bodies : (flMachine v0 v1 v2 v3 v4 v5 v6).lookup ("bodies" : Str) = some v0 := by kernel_rfl
theorem ptMachine_bodies : putF "bodies" x (flMachine v0 v1 v2 v3 v4 v5 v6) = flMachine x v1 v2 v3 v4 v5 v6 := by kernel_rfl
theorem lkMachine_heads : (flMachine v0 v1 v2 v3 v4 v5 v6).lookup ("heads" : Str) = some v1 := by kernel_rfl
theorem ptMachine_heads : putF "heads" x (flMachine v0 v1 v2 v3 v4 v5 v6) = flMachine v0 x v2 v3 v4 v5 v6 := by kernel_rfl
theorem lkMachine_held : (flMachine v0 v1 v2 v3 v4 v5 v6).lookup ("held" : Str) = some v2 := by kernel_rfl
theorem ptMachine_held : putF "held" x (flMachine v0 v1 v2 v3 v4 v5 v6) = flMachine v0 v1 x v3 v4 v5 v6 := by kernel_rfl
theorem lkMachine_hands : (flMachine v0 v1 v2 v3 v4 v5 v6).lookup ("hands" : Str) = some v3 := by kernel_rfl
theorem ptMachine_hands : putF "hands" x (flMachine v0 v1 v2 v3 v4 v5 v6) = flMachine v0 v1 v2 x v4 v5 v6 := by kernel_rfl
theorem lkMachine_whose : (flMachine v0 v1 v2 v3 v4 v5 v6).lookup ("whose" : Str) = some v4 := by kernel_rfl
theorem ptMachine_whose : putF "whose" x (flMachine v0 v1 v2 v3 v4 v5 v6) = flMachine v0 v1 v2 v3 x v5 v6 := by kernel_rfl
theorem lkMachine_talk : (flMachine v0 v1 v2 v3 v4 v5 v6).lookup ("talk" : Str) = some v5 := by kernel_rfl
theorem ptMachine_talk : putF "talk" x (flMachine v0 v1 v2 v3 v4 v5 v6) = flMachine v0 v1 v2 v3 v4 x v6 := by kernel_rfl
theorem lkMachine_done : (flMachine v0 v1 v2 v3 v4 v5 v6).lookup ("done" : Str) = some v6 := by kernel_rfl
theorem ptMachine_done : putF "done" x (flMachine v0 v1 v2 v3 v4 v5 v6) = flMachine v0 v1 v2 v3 v4 v5 x := by kernel_rfl
theorem inMachine : (putF "done" v6 (putF "talk" v5 (putF "whose" v4 (putF "hands" v3 (putF "held" v2 (putF "heads" v1 (putF "bodies" v0 ([] : List (Str × V))))))))) = flMachine v0 v1 v2 v3 v4 v5 v6 := by kernel_rfl
theorem lenMachine : (flMachine v0 v1 v2 v3 v4 v5 v6).length < 1000 := by show 7 < 1000; decide
theorem nmMachine_frame : (flMachine v0 v1 v2 v3 v4 v5 v6).lookup ("frame" : Str) = none := by kernel_rfl
theorem nmMachine_settle : (flMachine v0 v1 v2 v3 v4 v5 v6).lookup ("settle" : Str) = none := by kernel_rfl
theorem nmMachine_unfold : (flMachine v0 v1 v2 v3 v4 v5 v6).lookup ("unfold" : Str) = none := by kernel_rfl
theorem nmMachine_back : (flMachine v0 v1 v2 v3 v4 v5 v6).lookup ("back" : Str) = none := by kernel_rfl
theorem nmMachine_seek : (flMachine v0 v1 v2 v3 v4 v5 v6).lookup ("seek" : Str) = none := by kernel_rfl
theorem nmMachine_is_over : (flMachine v0 v1 v2 v3 v4 v5 v6).lookup ("is_over" : Str) = none := by kernel_rfl
theorem nmMachine_next_place : (flMachine v0 v1 v2 v3 v4 v5 v6).lookup ("next_place" : Str) = none := by kernel_rfl
theorem nmMachine_deed : (flMachine v0 v1 v2 v3 v4 v5 v6).lookup ("deed" : Str) = none := by kernel_rfl
theorem nmMachine_do : (flMachine v0 v1 v2 v3 v4 v5 v6).lookup ("do" : Str) = none := by kernel_rfl
theorem nmMachine_call : (flMachine v0 v1 v2 v3 v4 v5 v6).lookup ("call" : Str) = none := by kernel_rfl
end
def flWatched (v0 v1 v2 v3 v4 v5 v6 v7 v8 : V) : List (Str × V) := [("program", v0), ("funs", v1), ("machine", v2), ("stops", v3), ("made", v4), ("goal", v5), ("left", v6), ("first", v7), ("moved", v8)]
section
variable {v0 v1 v2 v3 v4 v5 v6 v7 v8 x : V}
theorem lkWatched_program : (flWatched v0 v1 v2 v3 v4 v5 v6 v7 v8).lookup ("program" : Str) = some v0 := by kernel_rfl
theorem ptWatched_program : putF "program" x (flWatched v0 v1 v2 v3 v4 v5 v6 v7 v8) = flWatched x v1 v2 v3 v4 v5 v6 v7 v8 := by kernel_rfl
theorem lkWatched_funs : (flWatched v0 v1 v2 v3 v4 v5 v6 v7 v8).lookup ("funs" : Str) = some v1 := by kernel_rfl
theorem ptWatched_funs : putF "funs" x (flWatched v0 v1 v2 v3 v4 v5 v6 v7 v8) = flWatched v0 x v2 v3 v4 v5 v6 v7 v8 := by kernel_rfl
theorem lkWatched_machine : (flWatched v0 v1 v2 v3 v4 v5 v6 v7 v8).lookup ("machine" : Str) = some v2 := by kernel_rfl
theorem ptWatched_machine : putF "machine" x (flWatched v0 v1 v2 v3 v4 v5 v6 v7 v8) = flWatched v0 v1 x v3 v4 v5 v6 v7 v8 := by kernel_rfl
theorem lkWatched_stops : (flWatched v0 v1 v2 v3 v4 v5 v6 v7 v8).lookup ("stops" : Str) = some v3 := by kernel_rfl
theorem ptWatched_stops : putF "stops" x (flWatched v0 v1 v2 v3 v4 v5 v6 v7 v8) = flWatched v0 v1 v2 x v4 v5 v6 v7 v8 := by kernel_rfl
theorem lkWatched_made : (flWatched v0 v1 v2 v3 v4 v5 v6 v7 v8).lookup ("made" : Str) = some v4 := by kernel_rfl
theorem ptWatched_made : putF "made" x (flWatched v0 v1 v2 v3 v4 v5 v6 v7 v8) = flWatched v0 v1 v2 v3 x v5 v6 v7 v8 := by kernel_rfl
theorem lkWatched_goal : (flWatched v0 v1 v2 v3 v4 v5 v6 v7 v8).lookup ("goal" : Str) = some v5 := by kernel_rfl
theorem ptWatched_goal : putF "goal" x (flWatched v0 v1 v2 v3 v4 v5 v6 v7 v8) = flWatched v0 v1 v2 v3 v4 x v6 v7 v8 := by kernel_rfl
theorem lkWatched_left : (flWatched v0 v1 v2 v3 v4 v5 v6 v7 v8).lookup ("left" : Str) = some v6 := by kernel_rfl
theorem ptWatched_left : putF "left" x (flWatched v0 v1 v2 v3 v4 v5 v6 v7 v8) = flWatched v0 v1 v2 v3 v4 v5 x v7 v8 := by kernel_rfl
theorem lkWatched_first : (flWatched v0 v1 v2 v3 v4 v5 v6 v7 v8).lookup ("first" : Str) = some v7 := by kernel_rfl
theorem ptWatched_first : putF "first" x (flWatched v0 v1 v2 v3 v4 v5 v6 v7 v8) = flWatched v0 v1 v2 v3 v4 v5 v6 x v8 := by kernel_rfl
theorem lkWatched_moved : (flWatched v0 v1 v2 v3 v4 v5 v6 v7 v8).lookup ("moved" : Str) = some v8 := by kernel_rfl
theorem ptWatched_moved : putF "moved" x (flWatched v0 v1 v2 v3 v4 v5 v6 v7 v8) = flWatched v0 v1 v2 v3 v4 v5 v6 v7 x := by kernel_rfl
theorem inWatched : (putF "moved" v8 (putF "first" v7 (putF "left" v6 (putF "goal" v5 (putF "made" v4 (putF "stops" v3 (putF "machine" v2 (putF "funs" v1 (putF "program" v0 ([] : List (Str × V))))))))))) = flWatched v0 v1 v2 v3 v4 v5 v6 v7 v8 := by kernel_rfl
theorem lenWatched : (flWatched v0 v1 v2 v3 v4 v5 v6 v7 v8).length < 1000 := by show 9 < 1000; decide
theorem nmWatched_need_hand : (flWatched v0 v1 v2 v3 v4 v5 v6 v7 v8).lookup ("need_hand" : Str) = none := by kernel_rfl
theorem nmWatched_stop : (flWatched v0 v1 v2 v3 v4 v5 v6 v7 v8).lookup ("stop" : Str) = none := by kernel_rfl
theorem nmWatched_clear : (flWatched v0 v1 v2 v3 v4 v5 v6 v7 v8).lookup ("clear" : Str) = none := by kernel_rfl
theorem nmWatched_met : (flWatched v0 v1 v2 v3 v4 v5 v6 v7 v8).lookup ("met" : Str) = none := by kernel_rfl
theorem nmWatched_is_reached : (flWatched v0 v1 v2 v3 v4 v5 v6 v7 v8).lookup ("is_reached" : Str) = none := by kernel_rfl
theorem nmWatched_event : (flWatched v0 v1 v2 v3 v4 v5 v6 v7 v8).lookup ("event" : Str) = none := by kernel_rfl
theorem nmWatched_begin : (flWatched v0 v1 v2 v3 v4 v5 v6 v7 v8).lookup ("begin" : Str) = none := by kernel_rfl
theorem nmWatched_on : (flWatched v0 v1 v2 v3 v4 v5 v6 v7 v8).lookup ("on" : Str) = none := by kernel_rfl
theorem nmWatched_finish : (flWatched v0 v1 v2 v3 v4 v5 v6 v7 v8).lookup ("finish" : Str) = none := by kernel_rfl
theorem nmWatched_go : (flWatched v0 v1 v2 v3 v4 v5 v6 v7 v8).lookup ("go" : Str) = none := by kernel_rfl
theorem nmWatched_need_go : (flWatched v0 v1 v2 v3 v4 v5 v6 v7 v8).lookup ("need_go" : Str) = none := by kernel_rfl
theorem nmWatched_need_step : (flWatched v0 v1 v2 v3 v4 v5 v6 v7 v8).lookup ("need_step" : Str) = none := by kernel_rfl
theorem nmWatched_step : (flWatched v0 v1 v2 v3 v4 v5 v6 v7 v8).lookup ("step" : Str) = none := by kernel_rfl
theorem nmWatched_stack : (flWatched v0 v1 v2 v3 v4 v5 v6 v7 v8).lookup ("stack" : Str) = none := by kernel_rfl
theorem nmWatched_frame : (flWatched v0 v1 v2 v3 v4 v5 v6 v7 v8).lookup ("frame" : Str) = none := by kernel_rfl
theorem nmWatched_look : (flWatched v0 v1 v2 v3 v4 v5 v6 v7 v8).lookup ("look" : Str) = none := by kernel_rfl
theorem nmWatched_change : (flWatched v0 v1 v2 v3 v4 v5 v6 v7 v8).lookup ("change" : Str) = none := by kernel_rfl
theorem nmWatched_put : (flWatched v0 v1 v2 v3 v4 v5 v6 v7 v8).lookup ("put" : Str) = none := by kernel_rfl
theorem nmWatched_cells : (flWatched v0 v1 v2 v3 v4 v5 v6 v7 v8).lookup ("cells" : Str) = none := by kernel_rfl
theorem nmWatched_said : (flWatched v0 v1 v2 v3 v4 v5 v6 v7 v8).lookup ("said" : Str) = none := by kernel_rfl
theorem nmWatched_is_over : (flWatched v0 v1 v2 v3 v4 v5 v6 v7 v8).lookup ("is_over" : Str) = none := by kernel_rfl
end
structure Fcts (K : PySem.W.Frag) : Prop where
  clLooker : Cls K (He.ga K "Looker")
  naLooker_many : NoAttr K (He.ga K "Looker") "many"
  naLooker_params : NoAttr K (He.ga K "Looker") "params"
  naLooker_names : NoAttr K (He.ga K "Looker") "names"
  naLooker_seen : NoAttr K (He.ga K "Looker") "seen"
  clNumberer : Cls K (He.ga K "Numberer")
  naNumberer_count : NoAttr K (He.ga K "Numberer") "count"
  naNumberer_funs : NoAttr K (He.ga K "Numberer") "funs"
  clFrame : Cls K (He.ga K "Frame")
  naFrame_fun : NoAttr K (He.ga K "Frame") "fun"
  naFrame_names : NoAttr K (He.ga K "Frame") "names"
  naFrame_todo : NoAttr K (He.ga K "Frame") "todo"
  naFrame_at : NoAttr K (He.ga K "Frame") "at"
  clMachine : Cls K (He.ga K "Machine")
  naMachine_bodies : NoAttr K (He.ga K "Machine") "bodies"
  naMachine_heads : NoAttr K (He.ga K "Machine") "heads"
  naMachine_held : NoAttr K (He.ga K "Machine") "held"
  naMachine_hands : NoAttr K (He.ga K "Machine") "hands"
  naMachine_whose : NoAttr K (He.ga K "Machine") "whose"
  naMachine_talk : NoAttr K (He.ga K "Machine") "talk"
  naMachine_done : NoAttr K (He.ga K "Machine") "done"
  clWatched : Cls K (He.ga K "Watched")
  naWatched_program : NoAttr K (He.ga K "Watched") "program"
  naWatched_funs : NoAttr K (He.ga K "Watched") "funs"
  naWatched_machine : NoAttr K (He.ga K "Watched") "machine"
  naWatched_stops : NoAttr K (He.ga K "Watched") "stops"
  naWatched_made : NoAttr K (He.ga K "Watched") "made"
  naWatched_goal : NoAttr K (He.ga K "Watched") "goal"
  naWatched_left : NoAttr K (He.ga K "Watched") "left"
  naWatched_first : NoAttr K (He.ga K "Watched") "first"
  naWatched_moved : NoAttr K (He.ga K "Watched") "moved"
def xfLooker_many (K : PySem.W.Frag) (ta : TE) : TE := fun σ H Q => ta σ H fun x H1 => ∃ a dx v0 v1 v2 v3, x = .ref a ∧ H1 a = some (.ins (He.ga K "Looker") dx (flLooker v0 v1 v2 v3)) ∧ Q v0 H1
theorem pe_xfLooker_many {X : Cx} {e : Expr} {ta : TE} {pos : Pos} (F : Fcts X.K) (he : PE X e ta) (hb : attributeBase e "many" X.env (eval e X.env) = eval e X.env) : PE X (.Attribute e "many" pos) (xfLooker_many X.K ta) := by
  refine ⟨fun pins s σ H Q I h => ?_⟩
  refine attr_of hb (thn (he.run pins s σ H _ I h) fun u s1 ⟨x, H1, I1, rx, a, dx, v0, v1, v2, v3, ex, ea, q⟩ => ?_)
  subst ex
  obtain rfl : u = Value.ref a := rx
  exact getattr_ok I1 ea F.clLooker F.naLooker_many lkLooker_many fun u2 s2 I2 ru => ⟨_, H1, I2, ru, q⟩
def xsLooker_many (K : PySem.W.Frag) (ta tv : TE) : TS := fun D σ H => tv σ H fun y H1 => ta σ H1 fun x H2 => ∃ a dx v0 v1 v2 v3, x = .ref a ∧ H2 a = some (.ins (He.ga K "Looker") dx (flLooker v0 v1 v2 v3)) ∧ D.nx σ (upd H2 a (.ins (He.ga K "Looker") dx (flLooker y v1 v2 v3)))
def xfLooker_params (K : PySem.W.Frag) (ta : TE) : TE := fun σ H Q => ta σ H fun x H1 => ∃ a dx v0 v1 v2 v3, x = .ref a ∧ H1 a = some (.ins (He.ga K "Looker") dx (flLooker v0 v1 v2 v3)) ∧ Q v1 H1
theorem pe_xfLooker_params {X : Cx} {e : Expr} {ta : TE} {pos : Pos} (F : Fcts X.K) (he : PE X e ta) (hb : attributeBase e "params" X.env (eval e X.env) = eval e X.env) : PE X (.Attribute e "params" pos) (xfLooker_params X.K ta) := by
  refine ⟨fun pins s σ H Q I h => ?_⟩
  refine attr_of hb (thn (he.run pins s σ H _ I h) fun u s1 ⟨x, H1, I1, rx, a, dx, v0, v1, v2, v3, ex, ea, q⟩ => ?_)
  subst ex
  obtain rfl : u = Value.ref a := rx
  exact getattr_ok I1 ea F.clLooker F.naLooker_params lkLooker_params fun u2 s2 I2 ru => ⟨_, H1, I2, ru, q⟩
def xsLooker_params (K : PySem.W.Frag) (ta tv : TE) : TS := fun D σ H => tv σ H fun y H1 => ta σ H1 fun x H2 => ∃ a dx v0 v1 v2 v3, x = .ref a ∧ H2 a = some (.ins (He.ga K "Looker") dx (flLooker v0 v1 v2 v3)) ∧ D.nx σ (upd H2 a (.ins (He.ga K "Looker") dx (flLooker v0 y v2 v3)))
def xfLooker_names (K : PySem.W.Frag) (ta : TE) : TE := fun σ H Q => ta σ H fun x H1 => ∃ a dx v0 v1 v2 v3, x = .ref a ∧ H1 a = some (.ins (He.ga K "Looker") dx (flLooker v0 v1 v2 v3)) ∧ Q v2 H1
theorem pe_xfLooker_names {X : Cx} {e : Expr} {ta : TE} {pos : Pos} (F : Fcts X.K) (he : PE X e ta) (hb : attributeBase e "names" X.env (eval e X.env) = eval e X.env) : PE X (.Attribute e "names" pos) (xfLooker_names X.K ta) := by
  refine ⟨fun pins s σ H Q I h => ?_⟩
  refine attr_of hb (thn (he.run pins s σ H _ I h) fun u s1 ⟨x, H1, I1, rx, a, dx, v0, v1, v2, v3, ex, ea, q⟩ => ?_)
  subst ex
  obtain rfl : u = Value.ref a := rx
  exact getattr_ok I1 ea F.clLooker F.naLooker_names lkLooker_names fun u2 s2 I2 ru => ⟨_, H1, I2, ru, q⟩
def xsLooker_names (K : PySem.W.Frag) (ta tv : TE) : TS := fun D σ H => tv σ H fun y H1 => ta σ H1 fun x H2 => ∃ a dx v0 v1 v2 v3, x = .ref a ∧ H2 a = some (.ins (He.ga K "Looker") dx (flLooker v0 v1 v2 v3)) ∧ D.nx σ (upd H2 a (.ins (He.ga K "Looker") dx (flLooker v0 v1 y v3)))
def xfLooker_seen (K : PySem.W.Frag) (ta : TE) : TE := fun σ H Q => ta σ H fun x H1 => ∃ a dx v0 v1 v2 v3, x = .ref a ∧ H1 a = some (.ins (He.ga K "Looker") dx (flLooker v0 v1 v2 v3)) ∧ Q v3 H1
theorem pe_xfLooker_seen {X : Cx} {e : Expr} {ta : TE} {pos : Pos} (F : Fcts X.K) (he : PE X e ta) (hb : attributeBase e "seen" X.env (eval e X.env) = eval e X.env) : PE X (.Attribute e "seen" pos) (xfLooker_seen X.K ta) := by
  refine ⟨fun pins s σ H Q I h => ?_⟩
  refine attr_of hb (thn (he.run pins s σ H _ I h) fun u s1 ⟨x, H1, I1, rx, a, dx, v0, v1, v2, v3, ex, ea, q⟩ => ?_)
  subst ex
  obtain rfl : u = Value.ref a := rx
  exact getattr_ok I1 ea F.clLooker F.naLooker_seen lkLooker_seen fun u2 s2 I2 ru => ⟨_, H1, I2, ru, q⟩
def xsLooker_seen (K : PySem.W.Frag) (ta tv : TE) : TS := fun D σ H => tv σ H fun y H1 => ta σ H1 fun x H2 => ∃ a dx v0 v1 v2 v3, x = .ref a ∧ H2 a = some (.ins (He.ga K "Looker") dx (flLooker v0 v1 v2 v3)) ∧ D.nx σ (upd H2 a (.ins (He.ga K "Looker") dx (flLooker v0 v1 v2 y)))
def xfNumberer_count (K : PySem.W.Frag) (ta : TE) : TE := fun σ H Q => ta σ H fun x H1 => ∃ a dx v0 v1, x = .ref a ∧ H1 a = some (.ins (He.ga K "Numberer") dx (flNumberer v0 v1)) ∧ Q v0 H1
theorem pe_xfNumberer_count {X : Cx} {e : Expr} {ta : TE} {pos : Pos} (F : Fcts X.K) (he : PE X e ta) (hb : attributeBase e "count" X.env (eval e X.env) = eval e X.env) : PE X (.Attribute e "count" pos) (xfNumberer_count X.K ta) := by
  refine ⟨fun pins s σ H Q I h => ?_⟩
  refine attr_of hb (thn (he.run pins s σ H _ I h) fun u s1 ⟨x, H1, I1, rx, a, dx, v0, v1, ex, ea, q⟩ => ?_)
  subst ex
  obtain rfl : u = Value.ref a := rx
  exact getattr_ok I1 ea F.clNumberer F.naNumberer_count lkNumberer_count fun u2 s2 I2 ru => ⟨_, H1, I2, ru, q⟩
def xsNumberer_count (K : PySem.W.Frag) (ta tv : TE) : TS := fun D σ H => tv σ H fun y H1 => ta σ H1 fun x H2 => ∃ a dx v0 v1, x = .ref a ∧ H2 a = some (.ins (He.ga K "Numberer") dx (flNumberer v0 v1)) ∧ D.nx σ (upd H2 a (.ins (He.ga K "Numberer") dx (flNumberer y v1)))
def xfNumberer_funs (K : PySem.W.Frag) (ta : TE) : TE := fun σ H Q => ta σ H fun x H1 => ∃ a dx v0 v1, x = .ref a ∧ H1 a = some (.ins (He.ga K "Numberer") dx (flNumberer v0 v1)) ∧ Q v1 H1
theorem pe_xfNumberer_funs {X : Cx} {e : Expr} {ta : TE} {pos : Pos} (F : Fcts X.K) (he : PE X e ta) (hb : attributeBase e "funs" X.env (eval e X.env) = eval e X.env) : PE X (.Attribute e "funs" pos) (xfNumberer_funs X.K ta) := by
  refine ⟨fun pins s σ H Q I h => ?_⟩
  refine attr_of hb (thn (he.run pins s σ H _ I h) fun u s1 ⟨x, H1, I1, rx, a, dx, v0, v1, ex, ea, q⟩ => ?_)
  subst ex
  obtain rfl : u = Value.ref a := rx
  exact getattr_ok I1 ea F.clNumberer F.naNumberer_funs lkNumberer_funs fun u2 s2 I2 ru => ⟨_, H1, I2, ru, q⟩
def xsNumberer_funs (K : PySem.W.Frag) (ta tv : TE) : TS := fun D σ H => tv σ H fun y H1 => ta σ H1 fun x H2 => ∃ a dx v0 v1, x = .ref a ∧ H2 a = some (.ins (He.ga K "Numberer") dx (flNumberer v0 v1)) ∧ D.nx σ (upd H2 a (.ins (He.ga K "Numberer") dx (flNumberer v0 y)))
def xfFrame_fun (K : PySem.W.Frag) (ta : TE) : TE := fun σ H Q => ta σ H fun x H1 => ∃ a dx v0 v1 v2 v3, x = .ref a ∧ H1 a = some (.ins (He.ga K "Frame") dx (flFrame v0 v1 v2 v3)) ∧ Q v0 H1
theorem pe_xfFrame_fun {X : Cx} {e : Expr} {ta : TE} {pos : Pos} (F : Fcts X.K) (he : PE X e ta) (hb : attributeBase e "fun" X.env (eval e X.env) = eval e X.env) : PE X (.Attribute e "fun" pos) (xfFrame_fun X.K ta) := by
  refine ⟨fun pins s σ H Q I h => ?_⟩
  refine attr_of hb (thn (he.run pins s σ H _ I h) fun u s1 ⟨x, H1, I1, rx, a, dx, v0, v1, v2, v3, ex, ea, q⟩ => ?_)
  subst ex
  obtain rfl : u = Value.ref a := rx
  exact getattr_ok I1 ea F.clFrame F.naFrame_fun lkFrame_fun fun u2 s2 I2 ru => ⟨_, H1, I2, ru, q⟩
def xsFrame_fun (K : PySem.W.Frag) (ta tv : TE) : TS := fun D σ H => tv σ H fun y H1 => ta σ H1 fun x H2 => ∃ a dx v0 v1 v2 v3, x = .ref a ∧ H2 a = some (.ins (He.ga K "Frame") dx (flFrame v0 v1 v2 v3)) ∧ D.nx σ (upd H2 a (.ins (He.ga K "Frame") dx (flFrame y v1 v2 v3)))
def xfFrame_names (K : PySem.W.Frag) (ta : TE) : TE := fun σ H Q => ta σ H fun x H1 => ∃ a dx v0 v1 v2 v3, x = .ref a ∧ H1 a = some (.ins (He.ga K "Frame") dx (flFrame v0 v1 v2 v3)) ∧ Q v1 H1
theorem pe_xfFrame_names {X : Cx} {e : Expr} {ta : TE} {pos : Pos} (F : Fcts X.K) (he : PE X e ta) (hb : attributeBase e "names" X.env (eval e X.env) = eval e X.env) : PE X (.Attribute e "names" pos) (xfFrame_names X.K ta) := by
  refine ⟨fun pins s σ H Q I h => ?_⟩
  refine attr_of hb (thn (he.run pins s σ H _ I h) fun u s1 ⟨x, H1, I1, rx, a, dx, v0, v1, v2, v3, ex, ea, q⟩ => ?_)
  subst ex
  obtain rfl : u = Value.ref a := rx
  exact getattr_ok I1 ea F.clFrame F.naFrame_names lkFrame_names fun u2 s2 I2 ru => ⟨_, H1, I2, ru, q⟩
def xsFrame_names (K : PySem.W.Frag) (ta tv : TE) : TS := fun D σ H => tv σ H fun y H1 => ta σ H1 fun x H2 => ∃ a dx v0 v1 v2 v3, x = .ref a ∧ H2 a = some (.ins (He.ga K "Frame") dx (flFrame v0 v1 v2 v3)) ∧ D.nx σ (upd H2 a (.ins (He.ga K "Frame") dx (flFrame v0 y v2 v3)))
def xfFrame_todo (K : PySem.W.Frag) (ta : TE) : TE := fun σ H Q => ta σ H fun x H1 => ∃ a dx v0 v1 v2 v3, x = .ref a ∧ H1 a = some (.ins (He.ga K "Frame") dx (flFrame v0 v1 v2 v3)) ∧ Q v2 H1
theorem pe_xfFrame_todo {X : Cx} {e : Expr} {ta : TE} {pos : Pos} (F : Fcts X.K) (he : PE X e ta) (hb : attributeBase e "todo" X.env (eval e X.env) = eval e X.env) : PE X (.Attribute e "todo" pos) (xfFrame_todo X.K ta) := by
  refine ⟨fun pins s σ H Q I h => ?_⟩
  refine attr_of hb (thn (he.run pins s σ H _ I h) fun u s1 ⟨x, H1, I1, rx, a, dx, v0, v1, v2, v3, ex, ea, q⟩ => ?_)
  subst ex
  obtain rfl : u = Value.ref a := rx
  exact getattr_ok I1 ea F.clFrame F.naFrame_todo lkFrame_todo fun u2 s2 I2 ru => ⟨_, H1, I2, ru, q⟩
def xsFrame_todo (K : PySem.W.Frag) (ta tv : TE) : TS := fun D σ H => tv σ H fun y H1 => ta σ H1 fun x H2 => ∃ a dx v0 v1 v2 v3, x = .ref a ∧ H2 a = some (.ins (He.ga K "Frame") dx (flFrame v0 v1 v2 v3)) ∧ D.nx σ (upd H2 a (.ins (He.ga K "Frame") dx (flFrame v0 v1 y v3)))
def xfFrame_at (K : PySem.W.Frag) (ta : TE) : TE := fun σ H Q => ta σ H fun x H1 => ∃ a dx v0 v1 v2 v3, x = .ref a ∧ H1 a = some (.ins (He.ga K "Frame") dx (flFrame v0 v1 v2 v3)) ∧ Q v3 H1
theorem pe_xfFrame_at {X : Cx} {e : Expr} {ta : TE} {pos : Pos} (F : Fcts X.K) (he : PE X e ta) (hb : attributeBase e "at" X.env (eval e X.env) = eval e X.env) : PE X (.Attribute e "at" pos) (xfFrame_at X.K ta) := by
  refine ⟨fun pins s σ H Q I h => ?_⟩
  refine attr_of hb (thn (he.run pins s σ H _ I h) fun u s1 ⟨x, H1, I1, rx, a, dx, v0, v1, v2, v3, ex, ea, q⟩ => ?_)
  subst ex
  obtain rfl : u = Value.ref a := rx
  exact getattr_ok I1 ea F.clFrame F.naFrame_at lkFrame_at fun u2 s2 I2 ru => ⟨_, H1, I2, ru, q⟩
def xsFrame_at (K : PySem.W.Frag) (ta tv : TE) : TS := fun D σ H => tv σ H fun y H1 => ta σ H1 fun x H2 => ∃ a dx v0 v1 v2 v3, x = .ref a ∧ H2 a = some (.ins (He.ga K "Frame") dx (flFrame v0 v1 v2 v3)) ∧ D.nx σ (upd H2 a (.ins (He.ga K "Frame") dx (flFrame v0 v1 v2 y)))
def xfMachine_bodies (K : PySem.W.Frag) (ta : TE) : TE := fun σ H Q => ta σ H fun x H1 => ∃ a dx v0 v1 v2 v3 v4 v5 v6, x = .ref a ∧ H1 a = some (.ins (He.ga K "Machine") dx (flMachine v0 v1 v2 v3 v4 v5 v6)) ∧ Q v0 H1
theorem pe_xfMachine_bodies {X : Cx} {e : Expr} {ta : TE} {pos : Pos} (F : Fcts X.K) (he : PE X e ta) (hb : attributeBase e "bodies" X.env (eval e X.env) = eval e X.env) : PE X (.Attribute e "bodies" pos) (xfMachine_bodies X.K ta) := by
  refine ⟨fun pins s σ H Q I h => ?_⟩
  refine attr_of hb (thn (he.run pins s σ H _ I h) fun u s1 ⟨x, H1, I1, rx, a, dx, v0, v1, v2, v3, v4, v5, v6, ex, ea, q⟩ => ?_)
  subst ex
  obtain rfl : u = Value.ref a := rx
  exact getattr_ok I1 ea F.clMachine F.naMachine_bodies lkMachine_bodies fun u2 s2 I2 ru => ⟨_, H1, I2, ru, q⟩
def xsMachine_bodies (K : PySem.W.Frag) (ta tv : TE) : TS := fun D σ H => tv σ H fun y H1 => ta σ H1 fun x H2 => ∃ a dx v0 v1 v2 v3 v4 v5 v6, x = .ref a ∧ H2 a = some (.ins (He.ga K "Machine") dx (flMachine v0 v1 v2 v3 v4 v5 v6)) ∧ D.nx σ (upd H2 a (.ins (He.ga K "Machine") dx (flMachine y v1 v2 v3 v4 v5 v6)))
def xfMachine_heads (K : PySem.W.Frag) (ta : TE) : TE := fun σ H Q => ta σ H fun x H1 => ∃ a dx v0 v1 v2 v3 v4 v5 v6, x = .ref a ∧ H1 a = some (.ins (He.ga K "Machine") dx (flMachine v0 v1 v2 v3 v4 v5 v6)) ∧ Q v1 H1
theorem pe_xfMachine_heads {X : Cx} {e : Expr} {ta : TE} {pos : Pos} (F : Fcts X.K) (he : PE X e ta) (hb : attributeBase e "heads" X.env (eval e X.env) = eval e X.env) : PE X (.Attribute e "heads" pos) (xfMachine_heads X.K ta) := by
  refine ⟨fun pins s σ H Q I h => ?_⟩
  refine attr_of hb (thn (he.run pins s σ H _ I h) fun u s1 ⟨x, H1, I1, rx, a, dx, v0, v1, v2, v3, v4, v5, v6, ex, ea, q⟩ => ?_)
  subst ex
  obtain rfl : u = Value.ref a := rx
  exact getattr_ok I1 ea F.clMachine F.naMachine_heads lkMachine_heads fun u2 s2 I2 ru => ⟨_, H1, I2, ru, q⟩
def xsMachine_heads (K : PySem.W.Frag) (ta tv : TE) : TS := fun D σ H => tv σ H fun y H1 => ta σ H1 fun x H2 => ∃ a dx v0 v1 v2 v3 v4 v5 v6, x = .ref a ∧ H2 a = some (.ins (He.ga K "Machine") dx (flMachine v0 v1 v2 v3 v4 v5 v6)) ∧ D.nx σ (upd H2 a (.ins (He.ga K "Machine") dx (flMachine v0 y v2 v3 v4 v5 v6)))
def xfMachine_held (K : PySem.W.Frag) (ta : TE) : TE := fun σ H Q => ta σ H fun x H1 => ∃ a dx v0 v1 v2 v3 v4 v5 v6, x = .ref a ∧ H1 a = some (.ins (He.ga K "Machine") dx (flMachine v0 v1 v2 v3 v4 v5 v6)) ∧ Q v2 H1
theorem pe_xfMachine_held {X : Cx} {e : Expr} {ta : TE} {pos : Pos} (F : Fcts X.K) (he : PE X e ta) (hb : attributeBase e "held" X.env (eval e X.env) = eval e X.env) : PE X (.Attribute e "held" pos) (xfMachine_held X.K ta) := by
  refine ⟨fun pins s σ H Q I h => ?_⟩
  refine attr_of hb (thn (he.run pins s σ H _ I h) fun u s1 ⟨x, H1, I1, rx, a, dx, v0, v1, v2, v3, v4, v5, v6, ex, ea, q⟩ => ?_)
  subst ex
  obtain rfl : u = Value.ref a := rx
  exact getattr_ok I1 ea F.clMachine F.naMachine_held lkMachine_held fun u2 s2 I2 ru => ⟨_, H1, I2, ru, q⟩
def xsMachine_held (K : PySem.W.Frag) (ta tv : TE) : TS := fun D σ H => tv σ H fun y H1 => ta σ H1 fun x H2 => ∃ a dx v0 v1 v2 v3 v4 v5 v6, x = .ref a ∧ H2 a = some (.ins (He.ga K "Machine") dx (flMachine v0 v1 v2 v3 v4 v5 v6)) ∧ D.nx σ (upd H2 a (.ins (He.ga K "Machine") dx (flMachine v0 v1 y v3 v4 v5 v6)))
def xfMachine_hands (K : PySem.W.Frag) (ta : TE) : TE := fun σ H Q => ta σ H fun x H1 => ∃ a dx v0 v1 v2 v3 v4 v5 v6, x = .ref a ∧ H1 a = some (.ins (He.ga K "Machine") dx (flMachine v0 v1 v2 v3 v4 v5 v6)) ∧ Q v3 H1
theorem pe_xfMachine_hands {X : Cx} {e : Expr} {ta : TE} {pos : Pos} (F : Fcts X.K) (he : PE X e ta) (hb : attributeBase e "hands" X.env (eval e X.env) = eval e X.env) : PE X (.Attribute e "hands" pos) (xfMachine_hands X.K ta) := by
  refine ⟨fun pins s σ H Q I h => ?_⟩
  refine attr_of hb (thn (he.run pins s σ H _ I h) fun u s1 ⟨x, H1, I1, rx, a, dx, v0, v1, v2, v3, v4, v5, v6, ex, ea, q⟩ => ?_)
  subst ex
  obtain rfl : u = Value.ref a := rx
  exact getattr_ok I1 ea F.clMachine F.naMachine_hands lkMachine_hands fun u2 s2 I2 ru => ⟨_, H1, I2, ru, q⟩
def xsMachine_hands (K : PySem.W.Frag) (ta tv : TE) : TS := fun D σ H => tv σ H fun y H1 => ta σ H1 fun x H2 => ∃ a dx v0 v1 v2 v3 v4 v5 v6, x = .ref a ∧ H2 a = some (.ins (He.ga K "Machine") dx (flMachine v0 v1 v2 v3 v4 v5 v6)) ∧ D.nx σ (upd H2 a (.ins (He.ga K "Machine") dx (flMachine v0 v1 v2 y v4 v5 v6)))
def xfMachine_whose (K : PySem.W.Frag) (ta : TE) : TE := fun σ H Q => ta σ H fun x H1 => ∃ a dx v0 v1 v2 v3 v4 v5 v6, x = .ref a ∧ H1 a = some (.ins (He.ga K "Machine") dx (flMachine v0 v1 v2 v3 v4 v5 v6)) ∧ Q v4 H1
theorem pe_xfMachine_whose {X : Cx} {e : Expr} {ta : TE} {pos : Pos} (F : Fcts X.K) (he : PE X e ta) (hb : attributeBase e "whose" X.env (eval e X.env) = eval e X.env) : PE X (.Attribute e "whose" pos) (xfMachine_whose X.K ta) := by
  refine ⟨fun pins s σ H Q I h => ?_⟩
  refine attr_of hb (thn (he.run pins s σ H _ I h) fun u s1 ⟨x, H1, I1, rx, a, dx, v0, v1, v2, v3, v4, v5, v6, ex, ea, q⟩ => ?_)
  subst ex
  obtain rfl : u = Value.ref a := rx
  exact getattr_ok I1 ea F.clMachine F.naMachine_whose lkMachine_whose fun u2 s2 I2 ru => ⟨_, H1, I2, ru, q⟩
def xsMachine_whose (K : PySem.W.Frag) (ta tv : TE) : TS := fun D σ H => tv σ H fun y H1 => ta σ H1 fun x H2 => ∃ a dx v0 v1 v2 v3 v4 v5 v6, x = .ref a ∧ H2 a = some (.ins (He.ga K "Machine") dx (flMachine v0 v1 v2 v3 v4 v5 v6)) ∧ D.nx σ (upd H2 a (.ins (He.ga K "Machine") dx (flMachine v0 v1 v2 v3 y v5 v6)))
def xfMachine_talk (K : PySem.W.Frag) (ta : TE) : TE := fun σ H Q => ta σ H fun x H1 => ∃ a dx v0 v1 v2 v3 v4 v5 v6, x = .ref a ∧ H1 a = some (.ins (He.ga K "Machine") dx (flMachine v0 v1 v2 v3 v4 v5 v6)) ∧ Q v5 H1
theorem pe_xfMachine_talk {X : Cx} {e : Expr} {ta : TE} {pos : Pos} (F : Fcts X.K) (he : PE X e ta) (hb : attributeBase e "talk" X.env (eval e X.env) = eval e X.env) : PE X (.Attribute e "talk" pos) (xfMachine_talk X.K ta) := by
  refine ⟨fun pins s σ H Q I h => ?_⟩
  refine attr_of hb (thn (he.run pins s σ H _ I h) fun u s1 ⟨x, H1, I1, rx, a, dx, v0, v1, v2, v3, v4, v5, v6, ex, ea, q⟩ => ?_)
  subst ex
  obtain rfl : u = Value.ref a := rx
  exact getattr_ok I1 ea F.clMachine F.naMachine_talk lkMachine_talk fun u2 s2 I2 ru => ⟨_, H1, I2, ru, q⟩
def xsMachine_talk (K : PySem.W.Frag) (ta tv : TE) : TS := fun D σ H => tv σ H fun y H1 => ta σ H1 fun x H2 => ∃ a dx v0 v1 v2 v3 v4 v5 v6, x = .ref a ∧ H2 a = some (.ins (He.ga K "Machine") dx (flMachine v0 v1 v2 v3 v4 v5 v6)) ∧ D.nx σ (upd H2 a (.ins (He.ga K "Machine") dx (flMachine v0 v1 v2 v3 v4 y v6)))
def xfMachine_done (K : PySem.W.Frag) (ta : TE) : TE := fun σ H Q => ta σ H fun x H1 => ∃ a dx v0 v1 v2 v3 v4 v5 v6, x = .ref a ∧ H1 a = some (.ins (He.ga K "Machine") dx (flMachine v0 v1 v2 v3 v4 v5 v6)) ∧ Q v6 H1
theorem pe_xfMachine_done {X : Cx} {e : Expr} {ta : TE} {pos : Pos} (F : Fcts X.K) (he : PE X e ta) (hb : attributeBase e "done" X.env (eval e X.env) = eval e X.env) : PE X (.Attribute e "done" pos) (xfMachine_done X.K ta) := by
  refine ⟨fun pins s σ H Q I h => ?_⟩
  refine attr_of hb (thn (he.run pins s σ H _ I h) fun u s1 ⟨x, H1, I1, rx, a, dx, v0, v1, v2, v3, v4, v5, v6, ex, ea, q⟩ => ?_)
  subst ex
  obtain rfl : u = Value.ref a := rx
  exact getattr_ok I1 ea F.clMachine F.naMachine_done lkMachine_done fun u2 s2 I2 ru => ⟨_, H1, I2, ru, q⟩
def xsMachine_done (K : PySem.W.Frag) (ta tv : TE) : TS := fun D σ H => tv σ H fun y H1 => ta σ H1 fun x H2 => ∃ a dx v0 v1 v2 v3 v4 v5 v6, x = .ref a ∧ H2 a = some (.ins (He.ga K "Machine") dx (flMachine v0 v1 v2 v3 v4 v5 v6)) ∧ D.nx σ (upd H2 a (.ins (He.ga K "Machine") dx (flMachine v0 v1 v2 v3 v4 v5 y)))
def xfWatched_program (K : PySem.W.Frag) (ta : TE) : TE := fun σ H Q => ta σ H fun x H1 => ∃ a dx v0 v1 v2 v3 v4 v5 v6 v7 v8, x = .ref a ∧ H1 a = some (.ins (He.ga K "Watched") dx (flWatched v0 v1 v2 v3 v4 v5 v6 v7 v8)) ∧ Q v0 H1
theorem pe_xfWatched_program {X : Cx} {e : Expr} {ta : TE} {pos : Pos} (F : Fcts X.K) (he : PE X e ta) (hb : attributeBase e "program" X.env (eval e X.env) = eval e X.env) : PE X (.Attribute e "program" pos) (xfWatched_program X.K ta) := by
  refine ⟨fun pins s σ H Q I h => ?_⟩
  refine attr_of hb (thn (he.run pins s σ H _ I h) fun u s1 ⟨x, H1, I1, rx, a, dx, v0, v1, v2, v3, v4, v5, v6, v7, v8, ex, ea, q⟩ => ?_)
  subst ex
  obtain rfl : u = Value.ref a := rx
  exact getattr_ok I1 ea F.clWatched F.naWatched_program lkWatched_program fun u2 s2 I2 ru => ⟨_, H1, I2, ru, q⟩
def xsWatched_program (K : PySem.W.Frag) (ta tv : TE) : TS := fun D σ H => tv σ H fun y H1 => ta σ H1 fun x H2 => ∃ a dx v0 v1 v2 v3 v4 v5 v6 v7 v8, x = .ref a ∧ H2 a = some (.ins (He.ga K "Watched") dx (flWatched v0 v1 v2 v3 v4 v5 v6 v7 v8)) ∧ D.nx σ (upd H2 a (.ins (He.ga K "Watched") dx (flWatched y v1 v2 v3 v4 v5 v6 v7 v8)))
def xfWatched_funs (K : PySem.W.Frag) (ta : TE) : TE := fun σ H Q => ta σ H fun x H1 => ∃ a dx v0 v1 v2 v3 v4 v5 v6 v7 v8, x = .ref a ∧ H1 a = some (.ins (He.ga K "Watched") dx (flWatched v0 v1 v2 v3 v4 v5 v6 v7 v8)) ∧ Q v1 H1
theorem pe_xfWatched_funs {X : Cx} {e : Expr} {ta : TE} {pos : Pos} (F : Fcts X.K) (he : PE X e ta) (hb : attributeBase e "funs" X.env (eval e X.env) = eval e X.env) : PE X (.Attribute e "funs" pos) (xfWatched_funs X.K ta) := by
  refine ⟨fun pins s σ H Q I h => ?_⟩
  refine attr_of hb (thn (he.run pins s σ H _ I h) fun u s1 ⟨x, H1, I1, rx, a, dx, v0, v1, v2, v3, v4, v5, v6, v7, v8, ex, ea, q⟩ => ?_)
  subst ex
  obtain rfl : u = Value.ref a := rx
  exact getattr_ok I1 ea F.clWatched F.naWatched_funs lkWatched_funs fun u2 s2 I2 ru => ⟨_, H1, I2, ru, q⟩
def xsWatched_funs (K : PySem.W.Frag) (ta tv : TE) : TS := fun D σ H => tv σ H fun y H1 => ta σ H1 fun x H2 => ∃ a dx v0 v1 v2 v3 v4 v5 v6 v7 v8, x = .ref a ∧ H2 a = some (.ins (He.ga K "Watched") dx (flWatched v0 v1 v2 v3 v4 v5 v6 v7 v8)) ∧ D.nx σ (upd H2 a (.ins (He.ga K "Watched") dx (flWatched v0 y v2 v3 v4 v5 v6 v7 v8)))
def xfWatched_machine (K : PySem.W.Frag) (ta : TE) : TE := fun σ H Q => ta σ H fun x H1 => ∃ a dx v0 v1 v2 v3 v4 v5 v6 v7 v8, x = .ref a ∧ H1 a = some (.ins (He.ga K "Watched") dx (flWatched v0 v1 v2 v3 v4 v5 v6 v7 v8)) ∧ Q v2 H1
theorem pe_xfWatched_machine {X : Cx} {e : Expr} {ta : TE} {pos : Pos} (F : Fcts X.K) (he : PE X e ta) (hb : attributeBase e "machine" X.env (eval e X.env) = eval e X.env) : PE X (.Attribute e "machine" pos) (xfWatched_machine X.K ta) := by
  refine ⟨fun pins s σ H Q I h => ?_⟩
  refine attr_of hb (thn (he.run pins s σ H _ I h) fun u s1 ⟨x, H1, I1, rx, a, dx, v0, v1, v2, v3, v4, v5, v6, v7, v8, ex, ea, q⟩ => ?_)
  subst ex
  obtain rfl : u = Value.ref a := rx
  exact getattr_ok I1 ea F.clWatched F.naWatched_machine lkWatched_machine fun u2 s2 I2 ru => ⟨_, H1, I2, ru, q⟩
def xsWatched_machine (K : PySem.W.Frag) (ta tv : TE) : TS := fun D σ H => tv σ H fun y H1 => ta σ H1 fun x H2 => ∃ a dx v0 v1 v2 v3 v4 v5 v6 v7 v8, x = .ref a ∧ H2 a = some (.ins (He.ga K "Watched") dx (flWatched v0 v1 v2 v3 v4 v5 v6 v7 v8)) ∧ D.nx σ (upd H2 a (.ins (He.ga K "Watched") dx (flWatched v0 v1 y v3 v4 v5 v6 v7 v8)))
def xfWatched_stops (K : PySem.W.Frag) (ta : TE) : TE := fun σ H Q => ta σ H fun x H1 => ∃ a dx v0 v1 v2 v3 v4 v5 v6 v7 v8, x = .ref a ∧ H1 a = some (.ins (He.ga K "Watched") dx (flWatched v0 v1 v2 v3 v4 v5 v6 v7 v8)) ∧ Q v3 H1
theorem pe_xfWatched_stops {X : Cx} {e : Expr} {ta : TE} {pos : Pos} (F : Fcts X.K) (he : PE X e ta) (hb : attributeBase e "stops" X.env (eval e X.env) = eval e X.env) : PE X (.Attribute e "stops" pos) (xfWatched_stops X.K ta) := by
  refine ⟨fun pins s σ H Q I h => ?_⟩
  refine attr_of hb (thn (he.run pins s σ H _ I h) fun u s1 ⟨x, H1, I1, rx, a, dx, v0, v1, v2, v3, v4, v5, v6, v7, v8, ex, ea, q⟩ => ?_)
  subst ex
  obtain rfl : u = Value.ref a := rx
  exact getattr_ok I1 ea F.clWatched F.naWatched_stops lkWatched_stops fun u2 s2 I2 ru => ⟨_, H1, I2, ru, q⟩
def xsWatched_stops (K : PySem.W.Frag) (ta tv : TE) : TS := fun D σ H => tv σ H fun y H1 => ta σ H1 fun x H2 => ∃ a dx v0 v1 v2 v3 v4 v5 v6 v7 v8, x = .ref a ∧ H2 a = some (.ins (He.ga K "Watched") dx (flWatched v0 v1 v2 v3 v4 v5 v6 v7 v8)) ∧ D.nx σ (upd H2 a (.ins (He.ga K "Watched") dx (flWatched v0 v1 v2 y v4 v5 v6 v7 v8)))
def xfWatched_made (K : PySem.W.Frag) (ta : TE) : TE := fun σ H Q => ta σ H fun x H1 => ∃ a dx v0 v1 v2 v3 v4 v5 v6 v7 v8, x = .ref a ∧ H1 a = some (.ins (He.ga K "Watched") dx (flWatched v0 v1 v2 v3 v4 v5 v6 v7 v8)) ∧ Q v4 H1
theorem pe_xfWatched_made {X : Cx} {e : Expr} {ta : TE} {pos : Pos} (F : Fcts X.K) (he : PE X e ta) (hb : attributeBase e "made" X.env (eval e X.env) = eval e X.env) : PE X (.Attribute e "made" pos) (xfWatched_made X.K ta) := by
  refine ⟨fun pins s σ H Q I h => ?_⟩
  refine attr_of hb (thn (he.run pins s σ H _ I h) fun u s1 ⟨x, H1, I1, rx, a, dx, v0, v1, v2, v3, v4, v5, v6, v7, v8, ex, ea, q⟩ => ?_)
  subst ex
  obtain rfl : u = Value.ref a := rx
  exact getattr_ok I1 ea F.clWatched F.naWatched_made lkWatched_made fun u2 s2 I2 ru => ⟨_, H1, I2, ru, q⟩
def xsWatched_made (K : PySem.W.Frag) (ta tv : TE) : TS := fun D σ H => tv σ H fun y H1 => ta σ H1 fun x H2 => ∃ a dx v0 v1 v2 v3 v4 v5 v6 v7 v8, x = .ref a ∧ H2 a = some (.ins (He.ga K "Watched") dx (flWatched v0 v1 v2 v3 v4 v5 v6 v7 v8)) ∧ D.nx σ (upd H2 a (.ins (He.ga K "Watched") dx (flWatched v0 v1 v2 v3 y v5 v6 v7 v8)))
def xfWatched_goal (K : PySem.W.Frag) (ta : TE) : TE := fun σ H Q => ta σ H fun x H1 => ∃ a dx v0 v1 v2 v3 v4 v5 v6 v7 v8, x = .ref a ∧ H1 a = some (.ins (He.ga K "Watched") dx (flWatched v0 v1 v2 v3 v4 v5 v6 v7 v8)) ∧ Q v5 H1
theorem pe_xfWatched_goal {X : Cx} {e : Expr} {ta : TE} {pos : Pos} (F : Fcts X.K) (he : PE X e ta) (hb : attributeBase e "goal" X.env (eval e X.env) = eval e X.env) : PE X (.Attribute e "goal" pos) (xfWatched_goal X.K ta) := by
  refine ⟨fun pins s σ H Q I h => ?_⟩
  refine attr_of hb (thn (he.run pins s σ H _ I h) fun u s1 ⟨x, H1, I1, rx, a, dx, v0, v1, v2, v3, v4, v5, v6, v7, v8, ex, ea, q⟩ => ?_)
  subst ex
  obtain rfl : u = Value.ref a := rx
  exact getattr_ok I1 ea F.clWatched F.naWatched_goal lkWatched_goal fun u2 s2 I2 ru => ⟨_, H1, I2, ru, q⟩
def xsWatched_goal (K : PySem.W.Frag) (ta tv : TE) : TS := fun D σ H => tv σ H fun y H1 => ta σ H1 fun x H2 => ∃ a dx v0 v1 v2 v3 v4 v5 v6 v7 v8, x = .ref a ∧ H2 a = some (.ins (He.ga K "Watched") dx (flWatched v0 v1 v2 v3 v4 v5 v6 v7 v8)) ∧ D.nx σ (upd H2 a (.ins (He.ga K "Watched") dx (flWatched v0 v1 v2 v3 v4 y v6 v7 v8)))
def xfWatched_left (K : PySem.W.Frag) (ta : TE) : TE := fun σ H Q => ta σ H fun x H1 => ∃ a dx v0 v1 v2 v3 v4 v5 v6 v7 v8, x = .ref a ∧ H1 a = some (.ins (He.ga K "Watched") dx (flWatched v0 v1 v2 v3 v4 v5 v6 v7 v8)) ∧ Q v6 H1
theorem pe_xfWatched_left {X : Cx} {e : Expr} {ta : TE} {pos : Pos} (F : Fcts X.K) (he : PE X e ta) (hb : attributeBase e "left" X.env (eval e X.env) = eval e X.env) : PE X (.Attribute e "left" pos) (xfWatched_left X.K ta) := by
  refine ⟨fun pins s σ H Q I h => ?_⟩
  refine attr_of hb (thn (he.run pins s σ H _ I h) fun u s1 ⟨x, H1, I1, rx, a, dx, v0, v1, v2, v3, v4, v5, v6, v7, v8, ex, ea, q⟩ => ?_)
  subst ex
  obtain rfl : u = Value.ref a := rx
  exact getattr_ok I1 ea F.clWatched F.naWatched_left lkWatched_left fun u2 s2 I2 ru => ⟨_, H1, I2, ru, q⟩
def xsWatched_left (K : PySem.W.Frag) (ta tv : TE) : TS := fun D σ H => tv σ H fun y H1 => ta σ H1 fun x H2 => ∃ a dx v0 v1 v2 v3 v4 v5 v6 v7 v8, x = .ref a ∧ H2 a = some (.ins (He.ga K "Watched") dx (flWatched v0 v1 v2 v3 v4 v5 v6 v7 v8)) ∧ D.nx σ (upd H2 a (.ins (He.ga K "Watched") dx (flWatched v0 v1 v2 v3 v4 v5 y v7 v8)))
def xfWatched_first (K : PySem.W.Frag) (ta : TE) : TE := fun σ H Q => ta σ H fun x H1 => ∃ a dx v0 v1 v2 v3 v4 v5 v6 v7 v8, x = .ref a ∧ H1 a = some (.ins (He.ga K "Watched") dx (flWatched v0 v1 v2 v3 v4 v5 v6 v7 v8)) ∧ Q v7 H1
theorem pe_xfWatched_first {X : Cx} {e : Expr} {ta : TE} {pos : Pos} (F : Fcts X.K) (he : PE X e ta) (hb : attributeBase e "first" X.env (eval e X.env) = eval e X.env) : PE X (.Attribute e "first" pos) (xfWatched_first X.K ta) := by
  refine ⟨fun pins s σ H Q I h => ?_⟩
  refine attr_of hb (thn (he.run pins s σ H _ I h) fun u s1 ⟨x, H1, I1, rx, a, dx, v0, v1, v2, v3, v4, v5, v6, v7, v8, ex, ea, q⟩ => ?_)
  subst ex
  obtain rfl : u = Value.ref a := rx
  exact getattr_ok I1 ea F.clWatched F.naWatched_first lkWatched_first fun u2 s2 I2 ru => ⟨_, H1, I2, ru, q⟩
def xsWatched_first (K : PySem.W.Frag) (ta tv : TE) : TS := fun D σ H => tv σ H fun y H1 => ta σ H1 fun x H2 => ∃ a dx v0 v1 v2 v3 v4 v5 v6 v7 v8, x = .ref a ∧ H2 a = some (.ins (He.ga K "Watched") dx (flWatched v0 v1 v2 v3 v4 v5 v6 v7 v8)) ∧ D.nx σ (upd H2 a (.ins (He.ga K "Watched") dx (flWatched v0 v1 v2 v3 v4 v5 v6 y v8)))
def xfWatched_moved (K : PySem.W.Frag) (ta : TE) : TE := fun σ H Q => ta σ H fun x H1 => ∃ a dx v0 v1 v2 v3 v4 v5 v6 v7 v8, x = .ref a ∧ H1 a = some (.ins (He.ga K "Watched") dx (flWatched v0 v1 v2 v3 v4 v5 v6 v7 v8)) ∧ Q v8 H1
theorem pe_xfWatched_moved {X : Cx} {e : Expr} {ta : TE} {pos : Pos} (F : Fcts X.K) (he : PE X e ta) (hb : attributeBase e "moved" X.env (eval e X.env) = eval e X.env) : PE X (.Attribute e "moved" pos) (xfWatched_moved X.K ta) := by
  refine ⟨fun pins s σ H Q I h => ?_⟩
  refine attr_of hb (thn (he.run pins s σ H _ I h) fun u s1 ⟨x, H1, I1, rx, a, dx, v0, v1, v2, v3, v4, v5, v6, v7, v8, ex, ea, q⟩ => ?_)
  subst ex
  obtain rfl : u = Value.ref a := rx
  exact getattr_ok I1 ea F.clWatched F.naWatched_moved lkWatched_moved fun u2 s2 I2 ru => ⟨_, H1, I2, ru, q⟩
def xsWatched_moved (K : PySem.W.Frag) (ta tv : TE) : TS := fun D σ H => tv σ H fun y H1 => ta σ H1 fun x H2 => ∃ a dx v0 v1 v2 v3 v4 v5 v6 v7 v8, x = .ref a ∧ H2 a = some (.ins (He.ga K "Watched") dx (flWatched v0 v1 v2 v3 v4 v5 v6 v7 v8)) ∧ D.nx σ (upd H2 a (.ins (He.ga K "Watched") dx (flWatched v0 v1 v2 v3 v4 v5 v6 v7 y)))
theorem ps_xsLooker_many {X : Cx} {e value : Expr} {ta tv : TE} {pos pos2 : Pos} (F : Fcts X.K) (ha : PE X e ta) (hv : PE X value tv) (hs : swapsWith value (some (.Attribute e "many" pos2)) pos.line X.env = pure false) : PS X (.Assign [.Attribute e "many" pos2] value pos) (xsLooker_many X.K ta tv) := by
  refine ⟨fun pins s σ H D I h => ?_⟩
  refine plainObj_wpAny_Assign_Attribute (thn (hv.run pins s σ H _ I h) fun u s1 ⟨y, H1, I1, ry, q⟩ => thn (ha.run pins s1 σ H1 _ I1 q) fun ov s2 ⟨x, H2, I2, rx, a, dx, v0, v1, v2, v3, ex, ea, q2⟩ => ?_) hs
  subst ex
  obtain rfl : ov = Value.ref a := rx
  refine setattr_ok I2 ea F.clLooker F.naLooker_many lenLooker ry fun s3 I3 => ⟨σ, _, I3, ?_⟩
  rw [ptLooker_many]
  exact q2
theorem ps_xsLooker_params {X : Cx} {e value : Expr} {ta tv : TE} {pos pos2 : Pos} (F : Fcts X.K) (ha : PE X e ta) (hv : PE X value tv) (hs : swapsWith value (some (.Attribute e "params" pos2)) pos.line X.env = pure false) : PS X (.Assign [.Attribute e "params" pos2] value pos) (xsLooker_params X.K ta tv) := by
  refine ⟨fun pins s σ H D I h => ?_⟩
  refine plainObj_wpAny_Assign_Attribute (thn (hv.run pins s σ H _ I h) fun u s1 ⟨y, H1, I1, ry, q⟩ => thn (ha.run pins s1 σ H1 _ I1 q) fun ov s2 ⟨x, H2, I2, rx, a, dx, v0, v1, v2, v3, ex, ea, q2⟩ => ?_) hs
  subst ex
  obtain rfl : ov = Value.ref a := rx
  refine setattr_ok I2 ea F.clLooker F.naLooker_params lenLooker ry fun s3 I3 => ⟨σ, _, I3, ?_⟩
  rw [ptLooker_params]
  exact q2
theorem ps_xsLooker_names {X : Cx} {e value : Expr} {ta tv : TE} {pos pos2 : Pos} (F : Fcts X.K) (ha : PE X e ta) (hv : PE X value tv) (hs : swapsWith value (some (.Attribute e "names" pos2)) pos.line X.env = pure false) : PS X (.Assign [.Attribute e "names" pos2] value pos) (xsLooker_names X.K ta tv) := by
  refine ⟨fun pins s σ H D I h => ?_⟩
  refine plainObj_wpAny_Assign_Attribute (thn (hv.run pins s σ H _ I h) fun u s1 ⟨y, H1, I1, ry, q⟩ => thn (ha.run pins s1 σ H1 _ I1 q) fun ov s2 ⟨x, H2, I2, rx, a, dx, v0, v1, v2, v3, ex, ea, q2⟩ => ?_) hs
  subst ex
  obtain rfl : ov = Value.ref a := rx
  refine setattr_ok I2 ea F.clLooker F.naLooker_names lenLooker ry fun s3 I3 => ⟨σ, _, I3, ?_⟩
  rw [ptLooker_names]
  exact q2
theorem ps_xsLooker_seen {X : Cx} {e value : Expr} {ta tv : TE} {pos pos2 : Pos} (F : Fcts X.K) (ha : PE X e ta) (hv : PE X value tv) (hs : swapsWith value (some (.Attribute e "seen" pos2)) pos.line X.env = pure false) : PS X (.Assign [.Attribute e "seen" pos2] value pos) (xsLooker_seen X.K ta tv) := by
  refine ⟨fun pins s σ H D I h => ?_⟩
  refine plainObj_wpAny_Assign_Attribute (thn (hv.run pins s σ H _ I h) fun u s1 ⟨y, H1, I1, ry, q⟩ => thn (ha.run pins s1 σ H1 _ I1 q) fun ov s2 ⟨x, H2, I2, rx, a, dx, v0, v1, v2, v3, ex, ea, q2⟩ => ?_) hs
  subst ex
  obtain rfl : ov = Value.ref a := rx
  refine setattr_ok I2 ea F.clLooker F.naLooker_seen lenLooker ry fun s3 I3 => ⟨σ, _, I3, ?_⟩
  rw [ptLooker_seen]
  exact q2
theorem ps_xsNumberer_count {X : Cx} {e value : Expr} {ta tv : TE} {pos pos2 : Pos} (F : Fcts X.K) (ha : PE X e ta) (hv : PE X value tv) (hs : swapsWith value (some (.Attribute e "count" pos2)) pos.line X.env = pure false) : PS X (.Assign [.Attribute e "count" pos2] value pos) (xsNumberer_count X.K ta tv) := by
  refine ⟨fun pins s σ H D I h => ?_⟩
  refine plainObj_wpAny_Assign_Attribute (thn (hv.run pins s σ H _ I h) fun u s1 ⟨y, H1, I1, ry, q⟩ => thn (ha.run pins s1 σ H1 _ I1 q) fun ov s2 ⟨x, H2, I2, rx, a, dx, v0, v1, ex, ea, q2⟩ => ?_) hs
  subst ex
  obtain rfl : ov = Value.ref a := rx
  refine setattr_ok I2 ea F.clNumberer F.naNumberer_count lenNumberer ry fun s3 I3 => ⟨σ, _, I3, ?_⟩
  rw [ptNumberer_count]
  exact q2
theorem ps_xsNumberer_funs {X : Cx} {e value : Expr} {ta tv : TE} {pos pos2 : Pos} (F : Fcts X.K) (ha : PE X e ta) (hv : PE X value tv) (hs : swapsWith value (some (.Attribute e "funs" pos2)) pos.line X.env = pure false) : PS X (.Assign [.Attribute e "funs" pos2] value pos) (xsNumberer_funs X.K ta tv) := by
  refine ⟨fun pins s σ H D I h => ?_⟩
  refine plainObj_wpAny_Assign_Attribute (thn (hv.run pins s σ H _ I h) fun u s1 ⟨y, H1, I1, ry, q⟩ => thn (ha.run pins s1 σ H1 _ I1 q) fun ov s2 ⟨x, H2, I2, rx, a, dx, v0, v1, ex, ea, q2⟩ => ?_) hs
  subst ex
  obtain rfl : ov = Value.ref a := rx
  refine setattr_ok I2 ea F.clNumberer F.naNumberer_funs lenNumberer ry fun s3 I3 => ⟨σ, _, I3, ?_⟩
  rw [ptNumberer_funs]
  exact q2
theorem ps_xsFrame_fun {X : Cx} {e value : Expr} {ta tv : TE} {pos pos2 : Pos} (F : Fcts X.K) (ha : PE X e ta) (hv : PE X value tv) (hs : swapsWith value (some (.Attribute e "fun" pos2)) pos.line X.env = pure false) : PS X (.Assign [.Attribute e "fun" pos2] value pos) (xsFrame_fun X.K ta tv) := by
  refine ⟨fun pins s σ H D I h => ?_⟩
  refine plainObj_wpAny_Assign_Attribute (thn (hv.run pins s σ H _ I h) fun u s1 ⟨y, H1, I1, ry, q⟩ => thn (ha.run pins s1 σ H1 _ I1 q) fun ov s2 ⟨x, H2, I2, rx, a, dx, v0, v1, v2, v3, ex, ea, q2⟩ => ?_) hs
  subst ex
  obtain rfl : ov = Value.ref a := rx
  refine setattr_ok I2 ea F.clFrame F.naFrame_fun lenFrame ry fun s3 I3 => ⟨σ, _, I3, ?_⟩
  rw [ptFrame_fun]
  exact q2
theorem ps_xsFrame_names {X : Cx} {e value : Expr} {ta tv : TE} {pos pos2 : Pos} (F : Fcts X.K) (ha : PE X e ta) (hv : PE X value tv) (hs : swapsWith value (some (.Attribute e "names" pos2)) pos.line X.env = pure false) : PS X (.Assign [.Attribute e "names" pos2] value pos) (xsFrame_names X.K ta tv) := by
  refine ⟨fun pins s σ H D I h => ?_⟩
  refine plainObj_wpAny_Assign_Attribute (thn (hv.run pins s σ H _ I h) fun u s1 ⟨y, H1, I1, ry, q⟩ => thn (ha.run pins s1 σ H1 _ I1 q) fun ov s2 ⟨x, H2, I2, rx, a, dx, v0, v1, v2, v3, ex, ea, q2⟩ => ?_) hs
  subst ex
  obtain rfl : ov = Value.ref a := rx
  refine setattr_ok I2 ea F.clFrame F.naFrame_names lenFrame ry fun s3 I3 => ⟨σ, _, I3, ?_⟩
  rw [ptFrame_names]
  exact q2
theorem ps_xsFrame_todo {X : Cx} {e value : Expr} {ta tv : TE} {pos pos2 : Pos} (F : Fcts X.K) (ha : PE X e ta) (hv : PE X value tv) (hs : swapsWith value (some (.Attribute e "todo" pos2)) pos.line X.env = pure false) : PS X (.Assign [.Attribute e "todo" pos2] value pos) (xsFrame_todo X.K ta tv) := by
  refine ⟨fun pins s σ H D I h => ?_⟩
  refine plainObj_wpAny_Assign_Attribute (thn (hv.run pins s σ H _ I h) fun u s1 ⟨y, H1, I1, ry, q⟩ => thn (ha.run pins s1 σ H1 _ I1 q) fun ov s2 ⟨x, H2, I2, rx, a, dx, v0, v1, v2, v3, ex, ea, q2⟩ => ?_) hs
  subst ex
  obtain rfl : ov = Value.ref a := rx
  refine setattr_ok I2 ea F.clFrame F.naFrame_todo lenFrame ry fun s3 I3 => ⟨σ, _, I3, ?_⟩
  rw [ptFrame_todo]
  exact q2
theorem ps_xsFrame_at {X : Cx} {e value : Expr} {ta tv : TE} {pos pos2 : Pos} (F : Fcts X.K) (ha : PE X e ta) (hv : PE X value tv) (hs : swapsWith value (some (.Attribute e "at" pos2)) pos.line X.env = pure false) : PS X (.Assign [.Attribute e "at" pos2] value pos) (xsFrame_at X.K ta tv) := by
  refine ⟨fun pins s σ H D I h => ?_⟩
  refine plainObj_wpAny_Assign_Attribute (thn (hv.run pins s σ H _ I h) fun u s1 ⟨y, H1, I1, ry, q⟩ => thn (ha.run pins s1 σ H1 _ I1 q) fun ov s2 ⟨x, H2, I2, rx, a, dx, v0, v1, v2, v3, ex, ea, q2⟩ => ?_) hs
  subst ex
  obtain rfl : ov = Value.ref a := rx
  refine setattr_ok I2 ea F.clFrame F.naFrame_at lenFrame ry fun s3 I3 => ⟨σ, _, I3, ?_⟩
  rw [ptFrame_at]
  exact q2
theorem ps_xsMachine_bodies {X : Cx} {e value : Expr} {ta tv : TE} {pos pos2 : Pos} (F : Fcts X.K) (ha : PE X e ta) (hv : PE X value tv) (hs : swapsWith value (some (.Attribute e "bodies" pos2)) pos.line X.env = pure false) : PS X (.Assign [.Attribute e "bodies" pos2] value pos) (xsMachine_bodies X.K ta tv) := by
  refine ⟨fun pins s σ H D I h => ?_⟩
  refine plainObj_wpAny_Assign_Attribute (thn (hv.run pins s σ H _ I h) fun u s1 ⟨y, H1, I1, ry, q⟩ => thn (ha.run pins s1 σ H1 _ I1 q) fun ov s2 ⟨x, H2, I2, rx, a, dx, v0, v1, v2, v3, v4, v5, v6, ex, ea, q2⟩ => ?_) hs
  subst ex
  obtain rfl : ov = Value.ref a := rx
  refine setattr_ok I2 ea F.clMachine F.naMachine_bodies lenMachine ry fun s3 I3 => ⟨σ, _, I3, ?_⟩
  rw [ptMachine_bodies]
  exact q2
theorem ps_xsMachine_heads {X : Cx} {e value : Expr} {ta tv : TE} {pos pos2 : Pos} (F : Fcts X.K) (ha : PE X e ta) (hv : PE X value tv) (hs : swapsWith value (some (.Attribute e "heads" pos2)) pos.line X.env = pure false) : PS X (.Assign [.Attribute e "heads" pos2] value pos) (xsMachine_heads X.K ta tv) := by
  refine ⟨fun pins s σ H D I h => ?_⟩
  refine plainObj_wpAny_Assign_Attribute (thn (hv.run pins s σ H _ I h) fun u s1 ⟨y, H1, I1, ry, q⟩ => thn (ha.run pins s1 σ H1 _ I1 q) fun ov s2 ⟨x, H2, I2, rx, a, dx, v0, v1, v2, v3, v4, v5, v6, ex, ea, q2⟩ => ?_) hs
  subst ex
  obtain rfl : ov = Value.ref a := rx
  refine setattr_ok I2 ea F.clMachine F.naMachine_heads lenMachine ry fun s3 I3 => ⟨σ, _, I3, ?_⟩
  rw [ptMachine_heads]
  exact q2
theorem ps_xsMachine_held {X : Cx} {e value : Expr} {ta tv : TE} {pos pos2 : Pos} (F : Fcts X.K) (ha : PE X e ta) (hv : PE X value tv) (hs : swapsWith value (some (.Attribute e "held" pos2)) pos.line X.env = pure false) : PS X (.Assign [.Attribute e "held" pos2] value pos) (xsMachine_held X.K ta tv) := by
  refine ⟨fun pins s σ H D I h => ?_⟩
  refine plainObj_wpAny_Assign_Attribute (thn (hv.run pins s σ H _ I h) fun u s1 ⟨y, H1, I1, ry, q⟩ => thn (ha.run pins s1 σ H1 _ I1 q) fun ov s2 ⟨x, H2, I2, rx, a, dx, v0, v1, v2, v3, v4, v5, v6, ex, ea, q2⟩ => ?_) hs
  subst ex
  obtain rfl : ov = Value.ref a := rx
  refine setattr_ok I2 ea F.clMachine F.naMachine_held lenMachine ry fun s3 I3 => ⟨σ, _, I3, ?_⟩
  rw [ptMachine_held]
  exact q2
theorem ps_xsMachine_hands {X : Cx} {e value : Expr} {ta tv : TE} {pos pos2 : Pos} (F : Fcts X.K) (ha : PE X e ta) (hv : PE X value tv) (hs : swapsWith value (some (.Attribute e "hands" pos2)) pos.line X.env = pure false) : PS X (.Assign [.Attribute e "hands" pos2] value pos) (xsMachine_hands X.K ta tv) := by
  refine ⟨fun pins s σ H D I h => ?_⟩
  refine plainObj_wpAny_Assign_Attribute (thn (hv.run pins s σ H _ I h) fun u s1 ⟨y, H1, I1, ry, q⟩ => thn (ha.run pins s1 σ H1 _ I1 q) fun ov s2 ⟨x, H2, I2, rx, a, dx, v0, v1, v2, v3, v4, v5, v6, ex, ea, q2⟩ => ?_) hs
  subst ex
  obtain rfl : ov = Value.ref a := rx
  refine setattr_ok I2 ea F.clMachine F.naMachine_hands lenMachine ry fun s3 I3 => ⟨σ, _, I3, ?_⟩
  rw [ptMachine_hands]
  exact q2
theorem ps_xsMachine_whose {X : Cx} {e value : Expr} {ta tv : TE} {pos pos2 : Pos} (F : Fcts X.K) (ha : PE X e ta) (hv : PE X value tv) (hs : swapsWith value (some (.Attribute e "whose" pos2)) pos.line X.env = pure false) : PS X (.Assign [.Attribute e "whose" pos2] value pos) (xsMachine_whose X.K ta tv) := by
  refine ⟨fun pins s σ H D I h => ?_⟩
  refine plainObj_wpAny_Assign_Attribute (thn (hv.run pins s σ H _ I h) fun u s1 ⟨y, H1, I1, ry, q⟩ => thn (ha.run pins s1 σ H1 _ I1 q) fun ov s2 ⟨x, H2, I2, rx, a, dx, v0, v1, v2, v3, v4, v5, v6, ex, ea, q2⟩ => ?_) hs
  subst ex
  obtain rfl : ov = Value.ref a := rx
  refine setattr_ok I2 ea F.clMachine F.naMachine_whose lenMachine ry fun s3 I3 => ⟨σ, _, I3, ?_⟩
  rw [ptMachine_whose]
  exact q2
theorem ps_xsMachine_talk {X : Cx} {e value : Expr} {ta tv : TE} {pos pos2 : Pos} (F : Fcts X.K) (ha : PE X e ta) (hv : PE X value tv) (hs : swapsWith value (some (.Attribute e "talk" pos2)) pos.line X.env = pure false) : PS X (.Assign [.Attribute e "talk" pos2] value pos) (xsMachine_talk X.K ta tv) := by
  refine ⟨fun pins s σ H D I h => ?_⟩
  refine plainObj_wpAny_Assign_Attribute (thn (hv.run pins s σ H _ I h) fun u s1 ⟨y, H1, I1, ry, q⟩ => thn (ha.run pins s1 σ H1 _ I1 q) fun ov s2 ⟨x, H2, I2, rx, a, dx, v0, v1, v2, v3, v4, v5, v6, ex, ea, q2⟩ => ?_) hs
  subst ex
  obtain rfl : ov = Value.ref a := rx
  refine setattr_ok I2 ea F.clMachine F.naMachine_talk lenMachine ry fun s3 I3 => ⟨σ, _, I3, ?_⟩
  rw [ptMachine_talk]
  exact q2
theorem ps_xsMachine_done {X : Cx} {e value : Expr} {ta tv : TE} {pos pos2 : Pos} (F : Fcts X.K) (ha : PE X e ta) (hv : PE X value tv) (hs : swapsWith value (some (.Attribute e "done" pos2)) pos.line X.env = pure false) : PS X (.Assign [.Attribute e "done" pos2] value pos) (xsMachine_done X.K ta tv) := by
  refine ⟨fun pins s σ H D I h => ?_⟩
  refine plainObj_wpAny_Assign_Attribute (thn (hv.run pins s σ H _ I h) fun u s1 ⟨y, H1, I1, ry, q⟩ => thn (ha.run pins s1 σ H1 _ I1 q) fun ov s2 ⟨x, H2, I2, rx, a, dx, v0, v1, v2, v3, v4, v5, v6, ex, ea, q2⟩ => ?_) hs
  subst ex
  obtain rfl : ov = Value.ref a := rx
  refine setattr_ok I2 ea F.clMachine F.naMachine_done lenMachine ry fun s3 I3 => ⟨σ, _, I3, ?_⟩
  rw [ptMachine_done]
  exact q2
theorem ps_xsWatched_program {X : Cx} {e value : Expr} {ta tv : TE} {pos pos2 : Pos} (F : Fcts X.K) (ha : PE X e ta) (hv : PE X value tv) (hs : swapsWith value (some (.Attribute e "program" pos2)) pos.line X.env = pure false) : PS X (.Assign [.Attribute e "program" pos2] value pos) (xsWatched_program X.K ta tv) := by
  refine ⟨fun pins s σ H D I h => ?_⟩
  refine plainObj_wpAny_Assign_Attribute (thn (hv.run pins s σ H _ I h) fun u s1 ⟨y, H1, I1, ry, q⟩ => thn (ha.run pins s1 σ H1 _ I1 q) fun ov s2 ⟨x, H2, I2, rx, a, dx, v0, v1, v2, v3, v4, v5, v6, v7, v8, ex, ea, q2⟩ => ?_) hs
  subst ex
  obtain rfl : ov = Value.ref a := rx
  refine setattr_ok I2 ea F.clWatched F.naWatched_program lenWatched ry fun s3 I3 => ⟨σ, _, I3, ?_⟩
  rw [ptWatched_program]
  exact q2
theorem ps_xsWatched_funs {X : Cx} {e value : Expr} {ta tv : TE} {pos pos2 : Pos} (F : Fcts X.K) (ha : PE X e ta) (hv : PE X value tv) (hs : swapsWith value (some (.Attribute e "funs" pos2)) pos.line X.env = pure false) : PS X (.Assign [.Attribute e "funs" pos2] value pos) (xsWatched_funs X.K ta tv) := by
  refine ⟨fun pins s σ H D I h => ?_⟩
  refine plainObj_wpAny_Assign_Attribute (thn (hv.run pins s σ H _ I h) fun u s1 ⟨y, H1, I1, ry, q⟩ => thn (ha.run pins s1 σ H1 _ I1 q) fun ov s2 ⟨x, H2, I2, rx, a, dx, v0, v1, v2, v3, v4, v5, v6, v7, v8, ex, ea, q2⟩ => ?_) hs
  subst ex
  obtain rfl : ov = Value.ref a := rx
  refine setattr_ok I2 ea F.clWatched F.naWatched_funs lenWatched ry fun s3 I3 => ⟨σ, _, I3, ?_⟩
  rw [ptWatched_funs]
  exact q2
theorem ps_xsWatched_machine {X : Cx} {e value : Expr} {ta tv : TE} {pos pos2 : Pos} (F : Fcts X.K) (ha : PE X e ta) (hv : PE X value tv) (hs : swapsWith value (some (.Attribute e "machine" pos2)) pos.line X.env = pure false) : PS X (.Assign [.Attribute e "machine" pos2] value pos) (xsWatched_machine X.K ta tv) := by
  refine ⟨fun pins s σ H D I h => ?_⟩
  refine plainObj_wpAny_Assign_Attribute (thn (hv.run pins s σ H _ I h) fun u s1 ⟨y, H1, I1, ry, q⟩ => thn (ha.run pins s1 σ H1 _ I1 q) fun ov s2 ⟨x, H2, I2, rx, a, dx, v0, v1, v2, v3, v4, v5, v6, v7, v8, ex, ea, q2⟩ => ?_) hs
  subst ex
  obtain rfl : ov = Value.ref a := rx
  refine setattr_ok I2 ea F.clWatched F.naWatched_machine lenWatched ry fun s3 I3 => ⟨σ, _, I3, ?_⟩
  rw [ptWatched_machine]
  exact q2
theorem ps_xsWatched_stops {X : Cx} {e value : Expr} {ta tv : TE} {pos pos2 : Pos} (F : Fcts X.K) (ha : PE X e ta) (hv : PE X value tv) (hs : swapsWith value (some (.Attribute e "stops" pos2)) pos.line X.env = pure false) : PS X (.Assign [.Attribute e "stops" pos2] value pos) (xsWatched_stops X.K ta tv) := by
  refine ⟨fun pins s σ H D I h => ?_⟩
  refine plainObj_wpAny_Assign_Attribute (thn (hv.run pins s σ H _ I h) fun u s1 ⟨y, H1, I1, ry, q⟩ => thn (ha.run pins s1 σ H1 _ I1 q) fun ov s2 ⟨x, H2, I2, rx, a, dx, v0, v1, v2, v3, v4, v5, v6, v7, v8, ex, ea, q2⟩ => ?_) hs
  subst ex
  obtain rfl : ov = Value.ref a := rx
  refine setattr_ok I2 ea F.clWatched F.naWatched_stops lenWatched ry fun s3 I3 => ⟨σ, _, I3, ?_⟩
  rw [ptWatched_stops]
  exact q2
theorem ps_xsWatched_made {X : Cx} {e value : Expr} {ta tv : TE} {pos pos2 : Pos} (F : Fcts X.K) (ha : PE X e ta) (hv : PE X value tv) (hs : swapsWith value (some (.Attribute e "made" pos2)) pos.line X.env = pure false) : PS X (.Assign [.Attribute e "made" pos2] value pos) (xsWatched_made X.K ta tv) := by
  refine ⟨fun pins s σ H D I h => ?_⟩
  refine plainObj_wpAny_Assign_Attribute (thn (hv.run pins s σ H _ I h) fun u s1 ⟨y, H1, I1, ry, q⟩ => thn (ha.run pins s1 σ H1 _ I1 q) fun ov s2 ⟨x, H2, I2, rx, a, dx, v0, v1, v2, v3, v4, v5, v6, v7, v8, ex, ea, q2⟩ => ?_) hs
  subst ex
  obtain rfl : ov = Value.ref a := rx
  refine setattr_ok I2 ea F.clWatched F.naWatched_made lenWatched ry fun s3 I3 => ⟨σ, _, I3, ?_⟩
  rw [ptWatched_made]
  exact q2
theorem ps_xsWatched_goal {X : Cx} {e value : Expr} {ta tv : TE} {pos pos2 : Pos} (F : Fcts X.K) (ha : PE X e ta) (hv : PE X value tv) (hs : swapsWith value (some (.Attribute e "goal" pos2)) pos.line X.env = pure false) : PS X (.Assign [.Attribute e "goal" pos2] value pos) (xsWatched_goal X.K ta tv) := by
  refine ⟨fun pins s σ H D I h => ?_⟩
  refine plainObj_wpAny_Assign_Attribute (thn (hv.run pins s σ H _ I h) fun u s1 ⟨y, H1, I1, ry, q⟩ => thn (ha.run pins s1 σ H1 _ I1 q) fun ov s2 ⟨x, H2, I2, rx, a, dx, v0, v1, v2, v3, v4, v5, v6, v7, v8, ex, ea, q2⟩ => ?_) hs
  subst ex
  obtain rfl : ov = Value.ref a := rx
  refine setattr_ok I2 ea F.clWatched F.naWatched_goal lenWatched ry fun s3 I3 => ⟨σ, _, I3, ?_⟩
  rw [ptWatched_goal]
  exact q2
theorem ps_xsWatched_left {X : Cx} {e value : Expr} {ta tv : TE} {pos pos2 : Pos} (F : Fcts X.K) (ha : PE X e ta) (hv : PE X value tv) (hs : swapsWith value (some (.Attribute e "left" pos2)) pos.line X.env = pure false) : PS X (.Assign [.Attribute e "left" pos2] value pos) (xsWatched_left X.K ta tv) := by
  refine ⟨fun pins s σ H D I h => ?_⟩
  refine plainObj_wpAny_Assign_Attribute (thn (hv.run pins s σ H _ I h) fun u s1 ⟨y, H1, I1, ry, q⟩ => thn (ha.run pins s1 σ H1 _ I1 q) fun ov s2 ⟨x, H2, I2, rx, a, dx, v0, v1, v2, v3, v4, v5, v6, v7, v8, ex, ea, q2⟩ => ?_) hs
  subst ex
  obtain rfl : ov = Value.ref a := rx
  refine setattr_ok I2 ea F.clWatched F.naWatched_left lenWatched ry fun s3 I3 => ⟨σ, _, I3, ?_⟩
  rw [ptWatched_left]
  exact q2
theorem ps_xsWatched_first {X : Cx} {e value : Expr} {ta tv : TE} {pos pos2 : Pos} (F : Fcts X.K) (ha : PE X e ta) (hv : PE X value tv) (hs : swapsWith value (some (.Attribute e "first" pos2)) pos.line X.env = pure false) : PS X (.Assign [.Attribute e "first" pos2] value pos) (xsWatched_first X.K ta tv) := by
  refine ⟨fun pins s σ H D I h => ?_⟩
  refine plainObj_wpAny_Assign_Attribute (thn (hv.run pins s σ H _ I h) fun u s1 ⟨y, H1, I1, ry, q⟩ => thn (ha.run pins s1 σ H1 _ I1 q) fun ov s2 ⟨x, H2, I2, rx, a, dx, v0, v1, v2, v3, v4, v5, v6, v7, v8, ex, ea, q2⟩ => ?_) hs
  subst ex
  obtain rfl : ov = Value.ref a := rx
  refine setattr_ok I2 ea F.clWatched F.naWatched_first lenWatched ry fun s3 I3 => ⟨σ, _, I3, ?_⟩
  rw [ptWatched_first]
  exact q2
theorem ps_xsWatched_moved {X : Cx} {e value : Expr} {ta tv : TE} {pos pos2 : Pos} (F : Fcts X.K) (ha : PE X e ta) (hv : PE X value tv) (hs : swapsWith value (some (.Attribute e "moved" pos2)) pos.line X.env = pure false) : PS X (.Assign [.Attribute e "moved" pos2] value pos) (xsWatched_moved X.K ta tv) := by
  refine ⟨fun pins s σ H D I h => ?_⟩
  refine plainObj_wpAny_Assign_Attribute (thn (hv.run pins s σ H _ I h) fun u s1 ⟨y, H1, I1, ry, q⟩ => thn (ha.run pins s1 σ H1 _ I1 q) fun ov s2 ⟨x, H2, I2, rx, a, dx, v0, v1, v2, v3, v4, v5, v6, v7, v8, ex, ea, q2⟩ => ?_) hs
  subst ex
  obtain rfl : ov = Value.ref a := rx
  refine setattr_ok I2 ea F.clWatched F.naWatched_moved lenWatched ry fun s3 I3 => ⟨σ, _, I3, ?_⟩
  rw [ptWatched_moved]
  exact q2
end SD
set_option Elab.async false
set_option linter.all false
set_option maxRecDepth 100000
set_option maxHeartbeats 4000000
namespace SD
open PySem PySem.Spec PyProof.Rows L2
local macro_rules | `(tactic| walk_at "mem") => `(tactic| first | exact List.Mem.head _ | (apply List.Mem.tail; walk_at "mem"))
/-! ### kinds of values -/
theorem isi_int (K : PySem.W.Frag) (H : Hp) (i : Int) : IsiOf K H (.int i) "int" true := ⟨_, .base (.int i), kit_ty (by decide +kernel)⟩
theorem isi_intB (K : PySem.W.Frag) (H : Hp) (i : Int) : IsiOf K H (.int i) "bool" false := ⟨_, .base (.int i), kit_ty (by decide +kernel)⟩
theorem isi_intT (K : PySem.W.Frag) (H : Hp) (i : Int) : IsiOf K H (.int i) "tuple" false := ⟨_, .base (.int i), kit_ty (by decide +kernel)⟩
theorem isi_strS (K : PySem.W.Frag) (H : Hp) (i : Str) : IsiOf K H (.str i) "str" true := ⟨_, .base (.str i), kit_ty (by decide +kernel)⟩
theorem tyT {K : PySem.W.Frag} {H : Hp} {a : Addr} {xs : List V} (h : SqT K H a xs) : TyX K H (.ref a) (.type "tuple") := by
  rcases h with (h | ⟨o, h⟩) | ⟨o, its, n, l, c, _⟩
  · exact .base (.tup h)
  · exact .fTuple h
  · exact .kTuple l c
theorem isi_tup {K : PySem.W.Frag} {H : Hp} {a : Addr} {xs : List V} (h : SqT K H a xs) : IsiOf K H (.ref a) "tuple" true := ⟨_, tyT h, kit_ty (by decide +kernel)⟩
theorem isi_tupI {K : PySem.W.Frag} {H : Hp} {a : Addr} {xs : List V} (h : SqT K H a xs) : IsiOf K H (.ref a) "int" false := ⟨_, tyT h, kit_ty (by decide +kernel)⟩
/-! ### is_number: of an int -/
def sp_is_number (K : PySem.W.Frag) (w : World) : Sp := fun vs H Q _ => ∃ i : Int, vs = [.int i] ∧ Q (.bl true) H
abbrev n_f_is_number : List Str := ["thing"]
def t_f_is_number (K : PySem.W.Frag) (w : World)  : TS :=
 (tRet (tAndV (tCB (rIsi' K) (tCons (tVar 0) (tCons (tC (.ty "int")) tNil))) (tNotV (tCB (rIsi' K) (tCons (tVar 0) (tCons (tC (.ty "bool")) tNil))))))
theorem pu_f_is_number {K : PySem.W.Frag} {w : World} (vs : List V) (H : Hp) (Q : VK) (E : XK) (h : sp_is_number K w vs H Q E) : t_f_is_number K w { nx := fun _ H' => Q .non H', rt := Q } (start n_f_is_number vs) H := by
  obtain ⟨i, rfl, q⟩ := h
  exact ⟨_, rfl, _, _, _, rfl, isi_int K H i, _, rfl, iteT ⟨_, rfl, _, _, _, rfl, isi_intB K H i, _, rfl, q⟩⟩
/-! ### reckoned -/
abbrev Sm (i : Int) : Prop := 0 ≤ i ∧ i < REST
def sp_reckoned (K : PySem.W.Frag) (w : World) : Sp := fun vs H Q _ => ∃ (o : Op2) (i j : Int), vs = [.str o.str, .int i, .int j] ∧ Sm i ∧ Sm j ∧ ∀ H', Same H H' → Q (.int (o.ev i j)) H'
abbrev n_f_reckoned : List Str := ["word", "one", "other"]
def t_f_reckoned (K : PySem.W.Frag) (w : World)  : TS :=
 (tSeq (tIfS (tTest (tOp (rIn K false) (tVar 0) (tTup (tCons (tC (.str "less")) (tCons (tC (.str "same")) tNil))))) (tRet (tIf (tTest (tOp rEq (tVar 0) (tC (.str "less")))) (tCB rInt1 (tCons (tOp (rI0 fun i j => .bl (decide (i < j))) (tVar 1) (tVar 2)) tNil)) (tCB rInt1 (tCons (tOp rEq (tVar 1) (tVar 2)) tNil)))) tNext)
 (tRet (tOp (rI (fun _ j => 0 < j) fun i j => .int (i % j)) (tDGet (tDisp [((tC (.str "add")), (tOp (rI0 fun i j => .int (i + j)) (tVar 1) (tVar 2))), ((tC (.str "take")), (tOp (rI0 fun i j => .int (i - j)) (tVar 1) (tVar 2))), ((tC (.str "times")), (tOp (rI CMul fun i j => .int (i * j)) (tVar 1) (tVar 2)))]) (tVar 0)) (tC (.int 10007)))))
theorem same_new {H : Hp} {p : Addr} (h : H p = none) (o : HO) : Same H (upd H p o) := fun b u q => by rw [upd_ne (ne_of_none q h)]; exact q
theorem pu_f_reckoned {K : PySem.W.Frag} {w : World} (vs : List V) (H : Hp) (Q : VK) (E : XK) (h : sp_reckoned K w vs H Q E) : t_f_reckoned K w { nx := fun _ H' => Q .non H', rt := Q } (start n_f_reckoned vs) H := by
  obtain ⟨o, i, j, rfl, hi, hj, q⟩ := h
  refine ⟨_, rfl, (by show 2 ≤ sizeLine; decide), fun p hp => ?_⟩
  have s1 : Same H (upd H p (.tup [.str "less", .str "same"])) := same_new hp _
  refine ⟨p, _, rfl, .inr (.inl (.inl upd_same)), rfl, rfl, _, rfl, ?_⟩
  have big : (∀ H', Same H H' → Q (.int (((if o.str = "add" then i + j else if o.str = "take" then i - j else i * j)) % 10007)) H') → o = .add ∨ o = .take ∨ o = .times →
     tRet (tOp (rI (fun _ j => 0 < j) fun i j => .int (i % j)) (tDGet (tDisp [((tC (.str "add")), (tOp (rI0 fun i j => .int (i + j)) (tVar 1) (tVar 2))), ((tC (.str "take")), (tOp (rI0 fun i j => .int (i - j)) (tVar 1) (tVar 2))), ((tC (.str "times")), (tOp (rI CMul fun i j => .int (i * j)) (tVar 1) (tVar 2)))]) (tVar 0)) (tC (.int 10007)))
      { nx := fun _ H' => Q .non H', rt := Q } [some (.str o.str), some (.int i), some (.int j)] (upd H p (.tup [.str "less", .str "same"])) := by
    intro q2 ho
    intro d hd
    refine ⟨_, rfl, _, rfl, _, _, rfl, rfl, _, rfl, _, rfl, _, _, rfl, rfl, _, rfl, _, rfl, _, _, rfl, rfl, .inl ⟨by have := hi.1; omega, by have := hi.2; unfold REST at this; omega⟩, ?_⟩
    refine ⟨upd_same, [(.inr "add", .int (i + j)), (.inr "take", .int (i - j)), (.inr "times", .int (i * j))], rfl, (by show 3 ≤ 15; decide), ?_⟩
    have s2 : Same (upd H p (.tup [.str "less", .str "same"])) (upd (upd (upd H p (.tup [.str "less", .str "same"])) d (.dK [])) d (.dK (mergeK [] [(.inr "add", .int (i + j)), (.inr "take", .int (i - j)), (.inr "times", .int (i * j))]))) := by
      rw [upd_upd]; exact same_new hd _
    have em : mergeK [] [((.inr "add" : Key), V.int (i + j)), (.inr "take", .int (i - j)), (.inr "times", .int (i * j))] = [((.inr "add" : Key), V.int (i + j)), (.inr "take", .int (i - j)), (.inr "times", .int (i * j))] := by kernel_rfl
    have s3 := s1.trans s2
    rw [em] at s3 ⊢
    rcases ho with rfl | rfl | rfl
    · refine ⟨_, rfl, d, .int (i + j), rfl, .inl ⟨_, .inr "add", .inl upd_same, rfl, (by kernel_rfl)⟩, _, _, rfl, rfl, (by show (0 : Int) < 10007; decide), ?_⟩
      exact q2 _ s3
    · refine ⟨_, rfl, d, .int (i - j), rfl, .inl ⟨_, .inr "take", .inl upd_same, rfl, (by kernel_rfl)⟩, _, _, rfl, rfl, (by show (0 : Int) < 10007; decide), ?_⟩
      exact q2 _ s3
    · refine ⟨_, rfl, d, .int (i * j), rfl, .inl ⟨_, .inr "times", .inl upd_same, rfl, (by kernel_rfl)⟩, _, _, rfl, rfl, (by show (0 : Int) < 10007; decide), ?_⟩
      exact q2 _ s3
  cases o with
  | add => exact iteF (big (fun H' s => q H' s) (.inl rfl))
  | take => exact iteF (big (fun H' s => q H' s) (.inr (.inl rfl)))
  | times => exact iteF (big (fun H' s => q H' s) (.inr (.inr rfl)))
  | less =>
    refine iteT ⟨_, rfl, rfl, _, rfl, ?_⟩
    refine iteT ⟨_, rfl, _, rfl, _, _, rfl, rfl, .inr ⟨_, rfl, ?_⟩⟩
    have := q _ s1
    show Q (.int (if decide (i < j) = true then 1 else 0)) _
    simp only [decide_eq_true_eq]
    exact this
  | same =>
    refine iteT ⟨_, rfl, rfl, _, rfl, ?_⟩
    refine iteF ⟨_, rfl, _, rfl, rfl, .inr ⟨_, rfl, ?_⟩⟩
    have := q _ s1
    have e : (V.int i = V.int j) = (i = j) := propext ⟨fun h => by cases h; rfl, fun h => by rw [h]⟩
    show Q (.int (if decide (V.int i = V.int j) = true then 1 else 0)) _
    simp only [decide_eq_true_eq, e]
    exact this
/-! ### worth -/
theorem str_ne1 (o : Op2) : o.str ≠ "num" ∧ o.str ≠ "name" ∧ o.str ≠ "cell" := by cases o <;> exact ⟨by decide +kernel, by decide +kernel, by decide +kernel⟩
def Rng (xs : List Int) : Prop := ∀ x ∈ xs, Sm x
theorem Op2.ev_sm (o : Op2) (i j : Int) : Sm (o.ev i j) := by
  cases o <;> simp only [Op2.ev, Sm, REST]
  · omega
  · omega
  · have := Int.emod_nonneg (i * j) (b := 10007) (by omega); have := Int.emod_lt_of_pos (i * j) (b := 10007) (by omega); omega
  · split <;> omega
  · split <;> omega
theorem getD_sm {xs : List Int} (h : Rng xs) {k : Nat} : Sm (xs.getD k 0) := by
  rw [List.getD_eq_getElem?_getD]
  cases e : xs[k]? with
  | none => exact ⟨by decide, by decide⟩
  | some v => exact h v (List.mem_of_getElem? e)
theorem Pt.ev_sm {ns cs : List Int} (hn : Rng ns) (hc : Rng cs) {a b : Nat} : ∀ p : Pt, p.wf a b = true → Sm (p.ev ns cs)
  | .num n, h => by simp only [Pt.wf, Bool.and_eq_true, decide_eq_true_eq] at h; exact h
  | .name k, _ => getD_sm hn
  | .cell k, _ => getD_sm hc
  | .two o x y, _ => Op2.ev_sm o _ _
def sp_worth (n : Nat) (K : PySem.W.Frag) (w : World) : Sp := fun vs H Q _ => ∃ (p : Pt) (vp : V) (na ca : Addr) (ns cs : List Int), vs = [vp, .ref na, .ref ca] ∧ p.dp ≤ n ∧ PtAt K H p vp ∧ p.wf ns.length cs.length = true ∧
  SqL K H na (ns.map V.int) ∧ SqL K H ca (cs.map V.int) ∧ Rng ns ∧ Rng cs ∧ ∀ H', Same H H' → Q (.int (p.ev ns cs)) H'
theorem Same.sq {K : PySem.W.Frag} {H H' : Hp} (e : Same H H') {a : Addr} {xs : List V} (h : SqL K H a xs) : SqL K H' a xs := L2.Same.seq e h
abbrev n_f_worth : List Str := ["part", "names", "cells"]
def t_f_worth (K : PySem.W.Frag) (w : World) (n : Nat) : TS :=
 (tSeq (tIfS (tTest (tOp rEq (tOp (rIxT K) (tVar 0) (tC (.int 0))) (tC (.str "num")))) (tRet (tOp (rIxT K) (tVar 0) (tC (.int 1)))) tNext)
 (tSeq (tIfS (tTest (tOp (rIn K false) (tOp (rIxT K) (tVar 0) (tC (.int 0))) (tTup (tCons (tC (.str "name")) (tCons (tC (.str "cell")) tNil))))) (tRet (tIf (tTest (tOp rEq (tOp (rIxT K) (tVar 0) (tC (.int 0))) (tC (.str "name")))) (tOp (rIxL K) (tVar 1) (tOp (rIxT K) (tVar 0) (tC (.int 1)))) (tOp (rIxL K) (tVar 2) (tOp (rIxT K) (tVar 0) (tC (.int 1)))))) tNext)
 (tRet (tCall (sp_reckoned K w) [] E0 (tCons (tOp (rIxT K) (tVar 0) (tC (.int 0))) (tCons (tCall (sp_worth n K w) [] E0 (tCons (tOp (rIxT K) (tVar 0) (tC (.int 1))) (tCons (tVar 1) (tCons (tVar 2) tNil)))) (tCons (tCall (sp_worth n K w) [] E0 (tCons (tOp (rIxT K) (tVar 0) (tC (.int 2))) (tCons (tVar 1) (tCons (tVar 2) tNil)))) tNil)))))))
theorem atI_map {ns : List Int} {k : Nat} (h : k < ns.length) : atI (ns.map V.int) (k : Int) = some (.int (ns.getD k 0)) := by
  refine atI_nat (j := k) ?_
  rw [List.getElem?_map, List.getElem?_eq_getElem h, List.getD_eq_getElem?_getD, List.getElem?_eq_getElem h]
  rfl
theorem pu_f_worth {K : PySem.W.Frag} {w : World} (n : Nat) (vs : List V) (H : Hp) (Q : VK) (E : XK) (h : sp_worth (n + 1) K w vs H Q E) : t_f_worth K w n { nx := fun _ H' => Q .non H', rt := Q } (start n_f_worth vs) H := by
  obtain ⟨p, vp, na, ca, ns, cs, rfl, hd, hp, hw, hn, hc, rn, rc, q⟩ := h
  cases p with
  | num i =>
    obtain ⟨a, rfl, ht⟩ := hp
    refine ⟨_, rfl, a, _, 0, _, rfl, rfl, ht, rfl, rfl, _, rfl, iteT ⟨_, rfl, a, _, 1, _, rfl, rfl, ht, rfl, ?_⟩⟩
    exact q H (Same.refl H)
  | name k =>
    obtain ⟨a, rfl, ht⟩ := hp
    have hk : k < ns.length := by simpa [Pt.wf] using hw
    refine ⟨_, rfl, a, _, 0, _, rfl, rfl, ht, rfl, rfl, _, rfl, iteF ⟨_, rfl, a, _, 0, _, rfl, rfl, ht, rfl, (by show 2 ≤ sizeLine; decide), fun t ht2 => ?_⟩⟩
    have i1 := Imm.new (o := .tup [.str "name", .str "cell"]) ht2
    have s1 := same_new ht2 (.tup [.str "name", .str "cell"])
    refine ⟨t, _, rfl, .inr (.inl (.inl upd_same)), rfl, rfl, _, rfl, iteT ⟨_, rfl, a, _, 0, _, rfl, rfl, i1.t ht, rfl, rfl, _, rfl, iteT ⟨_, rfl, _, rfl, a, _, 1, _, rfl, rfl, i1.t ht, rfl, na, _, _, _, rfl, rfl, Same.sq s1 hn, atI_map hk, ?_⟩⟩⟩
    exact q _ s1
  | cell k =>
    obtain ⟨a, rfl, ht⟩ := hp
    have hk : k < cs.length := by simpa [Pt.wf] using hw
    refine ⟨_, rfl, a, _, 0, _, rfl, rfl, ht, rfl, rfl, _, rfl, iteF ⟨_, rfl, a, _, 0, _, rfl, rfl, ht, rfl, (by show 2 ≤ sizeLine; decide), fun t ht2 => ?_⟩⟩
    have i1 := Imm.new (o := .tup [.str "name", .str "cell"]) ht2
    have s1 := same_new ht2 (.tup [.str "name", .str "cell"])
    refine ⟨t, _, rfl, .inr (.inl (.inl upd_same)), rfl, rfl, _, rfl, iteT ⟨_, rfl, a, _, 0, _, rfl, rfl, i1.t ht, rfl, rfl, _, rfl, iteF ⟨_, rfl, _, rfl, a, _, 1, _, rfl, rfl, i1.t ht, rfl, ca, _, _, _, rfl, rfl, Same.sq s1 hc, atI_map hk, ?_⟩⟩⟩
    exact q _ s1
  | two o x y =>
    obtain ⟨a, vx, vy, rfl, ht, hx, hy⟩ := hp
    have hwx : x.wf ns.length cs.length = true ∧ y.wf ns.length cs.length = true := by simpa [Pt.wf] using hw
    have hdx : x.dp ≤ n ∧ y.dp ≤ n := by simp only [Pt.dp] at hd; omega
    obtain ⟨e1, e2, e3⟩ := str_ne1 o
    refine ⟨_, rfl, a, _, 0, _, rfl, rfl, ht, rfl, rfl, _, rfl, ?_⟩
    refine ite2 (fun c => absurd (V.str.inj (of_decide_eq_true c)) e1) fun _ => ?_
    refine ⟨_, rfl, a, _, 0, _, rfl, rfl, ht, rfl, (by show 2 ≤ sizeLine; decide), fun t ht2 => ?_⟩
    have i1 := Imm.new (o := .tup [.str "name", .str "cell"]) ht2
    have s1 := same_new ht2 (.tup [.str "name", .str "cell"])
    refine ⟨t, _, rfl, .inr (.inl (.inl upd_same)), rfl, rfl, _, rfl, ?_⟩
    have hin : inV (.str o.str) [.str "name", .str "cell"] = false := by cases o <;> decide +kernel
    refine ite2 (fun c => ?_) fun _ => ?_
    · have c2 : inV (.str o.str) [.str "name", .str "cell"] = true := c
      rw [hin] at c2; cases c2
    refine ⟨_, rfl, a, _, 0, _, rfl, rfl, i1.t ht, rfl, ?_⟩
    refine ⟨_, rfl, a, _, 1, _, rfl, rfl, i1.t ht, rfl, _, rfl, _, rfl, ?_⟩
    refine ⟨x, vx, na, ca, ns, cs, rfl, hdx.1, hx.mono i1, hwx.1, Same.sq s1 hn, Same.sq s1 hc, rn, rc, fun H1 s2 => ?_⟩
    have i2 := i1.trans (Imm.same s2)
    have s3 := s1.trans s2
    refine ⟨_, rfl, a, _, 2, _, rfl, rfl, i2.t ht, rfl, _, rfl, _, rfl, ?_⟩
    refine ⟨y, vy, na, ca, ns, cs, rfl, hdx.2, hy.mono i2, hwx.2, Same.sq s3 hn, Same.sq s3 hc, rn, rc, fun H2 s4 => ?_⟩
    refine ⟨o, _, _, rfl, Pt.ev_sm rn rc x hwx.1, Pt.ev_sm rn rc y hwx.2, fun H3 s5 => ?_⟩
    exact q H3 (s3.trans (s4.trans s5))
end SD
set_option Elab.async false
set_option linter.all false
set_option maxRecDepth 100000
set_option maxHeartbeats 4000000
namespace SD
open PySem PySem.Spec PyProof.Rows L2
/-! ### small words -/
theorem iteDT {p A B : Prop} [Decidable p] (h : p) (a : A) : if decide p = true then A else B := by rw [if_pos (decide_eq_true h)]; exact a
theorem iteDF {p A B : Prop} [Decidable p] (h : ¬ p) (b : B) : if decide p = true then A else B := by rw [if_neg (by simpa using h)]; exact b
theorem iteNT {p A B : Prop} [Decidable p] (h : ¬ p) (a : A) : if (!decide p) = true then A else B := by rw [if_pos (by simpa using h)]; exact a
theorem iteNF {p A B : Prop} [Decidable p] (h : p) (b : B) : if (!decide p) = true then A else B := by rw [if_neg (by simpa using h)]; exact b
theorem cut1 (xs : List V) : cutV xs (some 1) none = xs.drop 1 := by
  unfold cutV
  rw [show HT.sIx xs.length 0 (some 1) = min 1 xs.length from HT.sIx_nat xs.length 0 1, HT.sIx_none]
  cases xs with
  | nil => rfl
  | cons x r =>
    rw [show min 1 (x :: r).length = 1 by rw [List.length_cons]; omega]
    show (List.take ((x :: r).length - 1) r) = r
    rw [List.length_cons, Nat.add_sub_cancel]
    exact List.take_length
theorem notWhole1 (x : V) (r : List V) : ¬ (HT.sIx (x :: r).length 0 (some 1) = 0 ∧ HT.sIx (x :: r).length (x :: r).length none = (x :: r).length) := by
  rw [show HT.sIx (x :: r).length 0 (some 1) = min 1 (x :: r).length from HT.sIx_nat (x :: r).length 0 1]
  rw [List.length_cons]
  omega
/-- what one item may be, by its kind -/
def OkI (K : PySem.W.Frag) (H : Hp) (many names : Int) (ps : List Int) (its : List V) (c : Nat) (v : V) : Prop :=
  (c = 110 ∧ ∃ i : Int, v = .int i ∧ 0 ≤ i ∧ i < 10007) ∨ (c = 107 ∧ ∃ i : Int, v = .int i ∧ 0 ≤ i ∧ i < names) ∨ (c = 99 ∧ ∃ i : Int, v = .int i ∧ 0 ≤ i ∧ i < many) ∨
  (c = 102 ∧ ∃ i : Int, v = .int i ∧ 0 ≤ i ∧ i < (ps.length : Int)) ∨ (c = 112 ∧ ∃ a xs, v = .ref a ∧ SqT K H a xs ∧ ∃ f : Nat, its[0]? = some (.int (f : Nat)) ∧ ps[f]? = some (xs.length : Int)) ∨
  (c = 98 ∧ ∃ a xs, v = .ref a ∧ SqT K H a xs) ∨ c = 120
theorem OkI.mono {K : PySem.W.Frag} {H H' : Hp} {many names : Int} {ps : List Int} {its : List V} {c : Nat} {v : V} (i : Imm H H') : OkI K H many names ps its c v → OkI K H' many names ps its c v
  | .inl h => .inl h
  | .inr (.inl h) => .inr (.inl h)
  | .inr (.inr (.inl h)) => .inr (.inr (.inl h))
  | .inr (.inr (.inr (.inl h))) => .inr (.inr (.inr (.inl h)))
  | .inr (.inr (.inr (.inr (.inl ⟨e, a, xs, ev, h, r⟩)))) => .inr (.inr (.inr (.inr (.inl ⟨e, a, xs, ev, i.t h, r⟩))))
  | .inr (.inr (.inr (.inr (.inr (.inl ⟨e, a, xs, ev, h⟩))))) => .inr (.inr (.inr (.inr (.inr (.inl ⟨e, a, xs, ev, i.t h⟩)))))
  | .inr (.inr (.inr (.inr (.inr (.inr h))))) => .inr (.inr (.inr (.inr (.inr (.inr h)))))
abbrev lkO (K : PySem.W.Frag) (dx : Addr) (many : Int) (pl : Addr) (names seen : Int) : HO := .ins (He.ga K "Looker") dx (flLooker (.int many) (.ref pl) (.int names) (.int seen))
/-! ### Looker.__init__ -/
def sp_Looker_init (K : PySem.W.Frag) (w : World) : Sp := fun vs H Q _ => ∃ (x dx pl : Addr) (many : Int) (R : List (Addr × HO)), vs = [.ref x, .int many, .ref pl] ∧ Holds H ((x, .ins (He.ga K "Looker") dx []) :: R) ∧
  ∀ H', Imm H H' → Holds H' ((x, lkO K dx many pl 0 0) :: R) → Q .non H'
abbrev n_m_Looker_init : List Str := ["self", "many", "params"]
def t_m_Looker_init (K : PySem.W.Frag) (w : World)  : TS :=
 (tSeq (sFld K (tVar 0) (tVar 1) "many")
 (tSeq (sFld K (tVar 0) (tVar 2) "params")
 (tSeq (sFld K (tVar 0) (tC (.int 0)) "names")
 (sFld K (tVar 0) (tC (.int 0)) "seen"))))
theorem pu_m_Looker_init {K : PySem.W.Frag} {w : World} (F : Fcts K) (vs : List V) (H : Hp) (Q : VK) (E : XK) (h : sp_Looker_init K w vs H Q E) : t_m_Looker_init K w { nx := fun _ H' => Q .non H', rt := Q } (start n_m_Looker_init vs) H := by
  obtain ⟨x, dx, pl, many, R, rfl, hH, q⟩ := h
  refine ⟨_, rfl, _, rfl, x, _, dx, _, rfl, hH.head, F.clLooker, F.naLooker_many, (by show 0 < 1000; decide), ?_⟩
  have h1 := hH.upd (o' := .ins (He.ga K "Looker") dx (putF "many" (.int many) []))
  refine ⟨_, rfl, _, rfl, x, _, dx, _, rfl, h1.head, F.clLooker, F.naLooker_params, (by show 1 < 1000; decide), ?_⟩
  have h2 := h1.upd (o' := .ins (He.ga K "Looker") dx (putF "params" (.ref pl) (putF "many" (.int many) [])))
  refine ⟨_, rfl, x, _, dx, _, rfl, h2.head, F.clLooker, F.naLooker_names, (by show 2 < 1000; decide), ?_⟩
  have h3 := h2.upd (o' := .ins (He.ga K "Looker") dx (putF "names" (.int 0) (putF "params" (.ref pl) (putF "many" (.int many) []))))
  refine ⟨_, rfl, x, _, dx, _, rfl, h3.head, F.clLooker, F.naLooker_seen, (by show 3 < 1000; decide), ?_⟩
  refine q _ ((hH.imm rfl).trans ((h1.imm rfl).trans ((h2.imm rfl).trans (h3.imm rfl)))) ?_
  rw [inLooker]
  exact h3.upd
/-! ### Looker.bounds -/
def sp_Looker_bounds (K : PySem.W.Frag) (w : World) : Sp := fun vs H Q _ => ∃ (l dx pl ta : Addr) (many names seen at_ : Int) (ps : List Int) (c : Nat) (v : V) (wd : Str) (its : List V) (R : List (Addr × HO)), vs = [.ref l, .str ⟨#[c]⟩, v, .ref ta, .int at_] ∧
  Holds H ((l, lkO K dx many pl names seen) :: (pl, .lst (ps.map V.int)) :: R) ∧ SqT K H ta (.str wd :: its) ∧ OkI K H many names ps its c v ∧
  ∀ H', Imm H H' → Holds H' ((l, lkO K dx many pl names seen) :: (pl, .lst (ps.map V.int)) :: R) → Q .non H'
abbrev n_m_Looker_bounds : List Str := ["self", "kind", "part", "thing", "at", "most"]
def t_m_Looker_bounds (K : PySem.W.Frag) (w : World)  : TS :=
 (tSeq (tAsg (tDGet2 (tDisp [((tC (.str "n")), (tC (.int 10007))), ((tC (.str "k")), (xfLooker_names K (tVar 0))), ((tC (.str "c")), (xfLooker_many K (tVar 0))), ((tC (.str "f")), (tCB (rLenS' K) (tCons (xfLooker_params K (tVar 0)) tNil)))]) (tVar 1) (tC .non)) (gName 5))
 (tSeq (tIfS (tAnd (tTest (tOp rNotN (tVar 5) (tC .non))) (tNot (tTest (tChain (rI0 fun i j => .bl (decide (i ≤ j))) (rI0 fun i j => .bl (decide (i < j))) (tC (.int 0)) (tVar 2) (tVar 5))))) tNever tNext)
 (tIfS (tAnd (tTest (tOp rEq (tVar 1) (tC (.str "p")))) (tTest (tOp rNe (tCB (rLenS' K) (tCons (tVar 2) tNil)) (tOp (rIxL K) (xfLooker_params K (tVar 0)) (tOp (rIxT K) (tVar 3) (tC (.int 1))))))) tNever tNext)))
theorem pu_m_Looker_bounds {K : PySem.W.Frag} {w : World} (vs : List V) (H : Hp) (Q : VK) (E : XK) (h : sp_Looker_bounds K w vs H Q E) : t_m_Looker_bounds K w { nx := fun _ H' => Q .non H', rt := Q } (start n_m_Looker_bounds vs) H := by
  obtain ⟨l, dx, pl, ta, many, names, seen, at_, ps, c, v, wd, its, R, rfl, hH, ht, ok, q⟩ := h
  intro d hd
  have h1 := hH.skip (o := .dK []) hd
  have hl := h1.head
  have hp := h1.tail.head
  refine ⟨_, rfl, l, dx, _, _, _, _, rfl, hl, _, rfl, l, dx, _, _, _, _, rfl, hl, _, rfl, l, dx, _, _, _, _, rfl, hl, pl, _, rfl, .inl (SqL.of hp), ?_⟩
  refine ⟨upd_same, [((.inr "n" : Key), V.int 10007), (.inr "k", .int names), (.inr "c", .int many), (.inr "f", .int ((ps.map V.int).length : Nat))], rfl, (by show 4 ≤ 15; decide), ?_⟩
  have em : mergeK [] [((.inr "n" : Key), V.int 10007), (.inr "k", .int names), (.inr "c", .int many), (.inr "f", .int ((ps.map V.int).length : Nat))] = [((.inr "n" : Key), V.int 10007), (.inr "k", .int names), (.inr "c", .int many), (.inr "f", .int ((ps.map V.int).length : Nat))] := by kernel_rfl
  rw [em, upd_upd, List.length_map]
  generalize hkv : [((.inr "n" : Key), V.int 10007), (.inr "k", .int names), (.inr "c", .int many), (.inr "f", .int ((ps.length : Nat) : Int))] = kvs
  have h2 := hH.skip (o := .dK kvs) hd
  have i2 := Imm.new (o := .dK kvs) hd
  have hl2 := h2.head
  have hp2 := h2.tail.head
  have fin : ∀ σ, (fun (_ : L2.St) H' => Q V.non H') σ (upd H d (.dK kvs)) := fun _ => q _ i2 h2
  refine ⟨d, rfl, .inl ⟨_, .inl upd_same⟩, _, rfl, valV kvs (.inr ⟨#[c]⟩), .inl ⟨kvs, .inr ⟨#[c]⟩, .inl upd_same, rfl, rfl⟩, ?_⟩
  have num : ∀ (m i : Int), v = .int i → 0 ≤ i → i < m → (⟨#[c]⟩ : Str) ≠ "p" → valV kvs (.inr ⟨#[c]⟩) = some (.int m) →
      (gName 5 ((valV kvs (.inr ⟨#[c]⟩)).getD .non) [some (.ref l), some (.str ⟨#[c]⟩), some v, some (.ref ta), some (.int at_), none] (upd H d (.dK kvs)) fun σ2 H2 => tSeq (tIfS (tAnd (tTest (tOp rNotN (tVar 5) (tC .non))) (tNot (tTest (tChain (rI0 fun i j => .bl (decide (i ≤ j))) (rI0 fun i j => .bl (decide (i < j))) (tC (.int 0)) (tVar 2) (tVar 5))))) tNever tNext)
 (tIfS (tAnd (tTest (tOp rEq (tVar 1) (tC (.str "p")))) (tTest (tOp rNe (tCB (rLenS' K) (tCons (tVar 2) tNil)) (tOp (rIxL K) (xfLooker_params K (tVar 0)) (tOp (rIxT K) (tVar 3) (tC (.int 1))))))) tNever tNext) { nx := fun _ H' => Q .non H', rt := Q } σ2 H2) := by
    intro m i ev h0 hm hnp e
    subst ev
    rw [e]
    refine ⟨_, rfl, rfl, _, rfl, iteT ⟨_, rfl, _, _, rfl, rfl, _, rfl, iteDT h0 ⟨_, rfl, _, _, rfl, rfl, _, rfl, iteNF hm ?_⟩⟩⟩
    refine ⟨_, rfl, rfl, _, rfl, iteDF (fun z => hnp (V.str.inj z)) (iteF (fin []))⟩
  have oth : (⟨#[c]⟩ : Str) ≠ "p" → valV kvs (.inr ⟨#[c]⟩) = none →
      (gName 5 ((valV kvs (.inr ⟨#[c]⟩)).getD .non) [some (.ref l), some (.str ⟨#[c]⟩), some v, some (.ref ta), some (.int at_), none] (upd H d (.dK kvs)) fun σ2 H2 => tSeq (tIfS (tAnd (tTest (tOp rNotN (tVar 5) (tC .non))) (tNot (tTest (tChain (rI0 fun i j => .bl (decide (i ≤ j))) (rI0 fun i j => .bl (decide (i < j))) (tC (.int 0)) (tVar 2) (tVar 5))))) tNever tNext)
 (tIfS (tAnd (tTest (tOp rEq (tVar 1) (tC (.str "p")))) (tTest (tOp rNe (tCB (rLenS' K) (tCons (tVar 2) tNil)) (tOp (rIxL K) (xfLooker_params K (tVar 0)) (tOp (rIxT K) (tVar 3) (tC (.int 1))))))) tNever tNext) { nx := fun _ H' => Q .non H', rt := Q } σ2 H2) := by
    intro hnp e
    rw [e]
    refine ⟨_, rfl, rfl, _, rfl, iteF (iteF ?_)⟩
    refine ⟨_, rfl, rfl, _, rfl, iteDF (fun z => hnp (V.str.inj z)) (iteF (fin []))⟩
  rcases ok with ⟨rfl, i, rfl, a1, a2⟩ | ⟨rfl, i, rfl, a1, a2⟩ | ⟨rfl, i, rfl, a1, a2⟩ | ⟨rfl, i, rfl, a1, a2⟩ | ⟨rfl, a, xs, rfl, hx, f, e1, e2⟩ | ⟨rfl, _⟩ | rfl
  · exact num _ i rfl a1 a2 (by decide +kernel) (by rw [← hkv]; kernel_rfl)
  · exact num _ i rfl a1 a2 (by decide +kernel) (by rw [← hkv]; kernel_rfl)
  · exact num _ i rfl a1 a2 (by decide +kernel) (by rw [← hkv]; kernel_rfl)
  · exact num _ i rfl a1 a2 (by decide +kernel) (by rw [← hkv]; kernel_rfl)
  · have e : valV kvs (.inr (⟨#[112]⟩ : Str)) = none := by rw [← hkv]; kernel_rfl
    rw [e]
    refine ⟨_, rfl, rfl, _, rfl, iteF (iteF ?_)⟩
    refine ⟨_, rfl, rfl, _, rfl, iteDT (congrArg V.str (by decide +kernel)) ?_⟩
    have hat1 : atI (.str wd :: its) 1 = some (.int (f : Nat)) := by
      refine atI_nat (j := 1) ?_
      rw [List.getElem?_cons_succ]; exact e1
    have hat2 : atI (ps.map V.int) (f : Nat) = some (.int (xs.length : Int)) := atI_nat (by rw [List.getElem?_map, e2]; rfl)
    refine ⟨_, rfl, a, xs, rfl, .inr (i2.t hx), _, rfl, l, dx, _, _, _, _, rfl, hl2, _, rfl, ta, _, 1, _, rfl, rfl, i2.t ht, hat1, pl, _, _, _, rfl, rfl, SqL.of hp2, hat2, rfl, _, rfl, ?_⟩
    exact iteNF rfl (fin [])
  · exact oth (by decide +kernel) (by rw [← hkv]; kernel_rfl)
  · exact oth (by decide +kernel) (by rw [← hkv]; kernel_rfl)
end SD
set_option Elab.async false
set_option linter.all false
set_option maxRecDepth 100000
set_option maxHeartbeats 4000000
namespace SD
open PySem PySem.Spec PyProof.Rows L2
/-! ### the tables -/
def tabD (z : Str) : Option V := ([("set", .str "kx"), ("put", .str "cx"), ("say", .str "x"), ("if", .str "xbb"), ("again", .str "xb"), ("call", .str "fpk"), ("return", .str "x")] : List (Str × V)).lookup z
def tabP (z : Str) : Option V := ([("num", .str "n"), ("name", .str "k"), ("cell", .str "c")] : List (Str × V)).lookup z
def twoL : List V := [.str "add", .str "take", .str "times", .str "less", .str "same"]
def waysL : List V := [.str "in", .str "over", .str "out"]
structure Tb (K : PySem.W.Frag) (w : World) : Prop where
  deeds : KTab K w (He.ga K "DEEDS") tabD
  parts : KTab K w (He.ga K "PARTS") tabP
  two : ∀ H, SqT K H (He.ga K "TWO") twoL
/-! ### items of a thing -/
inductive Itm where
  | v (c : Nat) | x (p : Pt) | bd (l : List Dd) | ps (l : List Pt)
def Itm.code : Itm → Nat | .v c => c | .x _ => 120 | .bd _ => 98 | .ps _ => 112
def Itm.sz : Itm → Nat | .v _ => 0 | .x p => p.sz | .bd b => szDs b | .ps l => szPs l
def Itm.dp : Itm → Nat | .v _ => 0 | .x p => p.dp | .bd b => dpDs b | .ps l => dpPs l
def Itm.wf (names cells : Nat) (params : List Nat) : Itm → Bool | .v _ => true | .x p => p.wf names cells | .bd b => wfDs names cells params b | .ps l => wfPs names cells l
def szIs : List Itm → Nat | [] => 0 | i :: r => i.sz + szIs r
def ItmAt (K : PySem.W.Frag) (H : Hp) (many names : Int) (ps : List Int) (its : List V) (it : Itm) (u : V) : Prop :=
  OkI K H many names ps its it.code u ∧ match it with
  | .v c => c ≠ 120 ∧ c ≠ 98 ∧ c ≠ 112
  | .x p => PtAt K H p u
  | .bd b => ∃ a vs, u = .ref a ∧ SqT K H a vs ∧ DdsAt K H b vs
  | .ps l => ∃ a vs, u = .ref a ∧ SqT K H a vs ∧ PtsAt K H l vs
theorem ItmAt.mono {K : PySem.W.Frag} {H H' : Hp} {many names : Int} {ps : List Int} {its : List V} {it : Itm} {u : V} (i : Imm H H') (h : ItmAt K H many names ps its it u) : ItmAt K H' many names ps its it u := by
  refine ⟨h.1.mono i, ?_⟩
  cases it with
  | v c => exact h.2
  | x p => exact PtAt.mono i h.2
  | bd b => obtain ⟨a, vs, e, h1, h2⟩ := h.2; exact ⟨a, vs, e, i.t h1, h2.mono i⟩
  | ps l => obtain ⟨a, vs, e, h1, h2⟩ := h.2; exact ⟨a, vs, e, i.t h1, h2.mono i⟩
structure ThAt (K : PySem.W.Frag) (H : Hp) (many names : Int) (ps : List Int) (isd : Bool) (a : Addr) (wd : Str) (its : List V) (sh : Str) (items : List Itm) : Prop where
  tup : SqT K H a (.str wd :: its)
  shp : (isd = true ∧ tabD wd = some (.str sh)) ∨ (isd = false ∧ inV (.str wd) twoL = true ∧ sh = "xx") ∨ (isd = false ∧ inV (.str wd) twoL = false ∧ tabP wd = some (.str sh))
  len : items.length = its.length
  few : items.length ≤ 4
  codes : sh.cps.toList = items.map Itm.code
  at_ : ∀ (i : Nat) (it : Itm) (u : V), items[i]? = some it → its[i]? = some u → ItmAt K H many names ps its it u
section
variable {K : PySem.W.Frag} {H H' : Hp} {many names : Int} {ps : List Int} {isd : Bool} {a : Addr} {wd sh : Str} {its : List V} {items : List Itm}
theorem ThAt.mono (i : Imm H H') (h : ThAt K H many names ps isd a wd its sh items) : ThAt K H' many names ps isd a wd its sh items :=
  ⟨i.t h.tup, h.shp, h.len, h.few, h.codes, fun j it u e1 e2 => (h.at_ j it u e1 e2).mono i⟩
theorem ThAt.size (h : ThAt K H many names ps isd a wd its sh items) : sh.cps.size = its.length := by
  have := congrArg List.length h.codes
  rw [List.length_map, h.len] at this
  simpa using this
theorem ThAt.item (h : ThAt K H many names ps isd a wd its sh items) {i c : Nat} {u : V} (h1 : sh.cps[i]? = some c) (h2 : its[i]? = some u) : ∃ it, items[i]? = some it ∧ it.code = c ∧ ItmAt K H many names ps its it u := by
  have e : (items.map Itm.code)[i]? = some c := by rw [← h.codes]; simpa using h1
  rw [List.getElem?_map] at e
  cases q : items[i]? with
  | none => rw [q] at e; cases e
  | some it =>
    rw [q] at e
    exact ⟨it, rfl, Option.some.inj e, h.at_ i it u q h2⟩
theorem szIs_take {it : Itm} : ∀ {items : List Itm} {i : Nat}, items[i]? = some it → szIs (items.take (i + 1)) = szIs (items.take i) + it.sz
  | [], i, h => by simp at h
  | x :: r, 0, h => by
    have e : x = it := by simpa using h
    subst e
    simp [szIs]
  | x :: r, i + 1, h => by
    have := szIs_take (items := r) (i := i) (by simpa using h)
    show x.sz + szIs (r.take (i + 1)) = x.sz + szIs (r.take i) + it.sz
    omega
theorem szIs_le (items : List Itm) (i : Nat) : szIs (items.take i) ≤ szIs items := by
  induction items generalizing i with
  | nil => simp [szIs]
  | cons x r ih =>
    cases i with
    | zero => simp [szIs]
    | succ i => have := ih i; show x.sz + szIs (r.take i) ≤ x.sz + szIs r; omega
end
/-- what the items of a part, a deed are -/
def Pt.items : Pt → List Itm
  | .num _ => [.v 110] | .name _ => [.v 107] | .cell _ => [.v 99] | .two _ a b => [.x a, .x b]
def Dd.items : Dd → List Itm
  | .set _ x => [.v 107, .x x] | .put _ x => [.v 99, .x x] | .say x => [.x x] | .iff x a b => [.x x, .bd a, .bd b] | .again x b => [.x x, .bd b] | .call _ xs _ => [.v 102, .ps xs, .v 107] | .ret x => [.x x]
theorem okN {K : PySem.W.Frag} {H : Hp} {many names : Int} {ps : List Int} {its : List V} {i : Int} (h : 0 ≤ i ∧ i < 10007) : OkI K H many names ps its 110 (.int i) := .inl ⟨rfl, i, rfl, h.1, h.2⟩
theorem okK {K : PySem.W.Frag} {H : Hp} {many names : Int} {ps : List Int} {its : List V} {i : Int} (h : 0 ≤ i ∧ i < names) : OkI K H many names ps its 107 (.int i) := .inr (.inl ⟨rfl, i, rfl, h.1, h.2⟩)
theorem okC {K : PySem.W.Frag} {H : Hp} {many names : Int} {ps : List Int} {its : List V} {i : Int} (h : 0 ≤ i ∧ i < many) : OkI K H many names ps its 99 (.int i) := .inr (.inr (.inl ⟨rfl, i, rfl, h.1, h.2⟩))
theorem okF {K : PySem.W.Frag} {H : Hp} {many names : Int} {ps : List Int} {its : List V} {i : Int} (h : 0 ≤ i ∧ i < (ps.length : Int)) : OkI K H many names ps its 102 (.int i) := .inr (.inr (.inr (.inl ⟨rfl, i, rfl, h.1, h.2⟩)))
theorem okX {K : PySem.W.Frag} {H : Hp} {many names : Int} {ps : List Int} {its : List V} {v : V} : OkI K H many names ps its 120 v := .inr (.inr (.inr (.inr (.inr (.inr rfl)))))
theorem okB {K : PySem.W.Frag} {H : Hp} {many names : Int} {ps : List Int} {its : List V} {a : Addr} {xs : List V} (h : SqT K H a xs) : OkI K H many names ps its 98 (.ref a) := .inr (.inr (.inr (.inr (.inr (.inl ⟨rfl, a, xs, rfl, h⟩)))))
theorem okP {K : PySem.W.Frag} {H : Hp} {many names : Int} {ps : List Int} {its : List V} {a : Addr} {xs : List V} {f : Nat} (h : SqT K H a xs) (h1 : its[0]? = some (.int (f : Nat))) (h2 : ps[f]? = some (xs.length : Int)) : OkI K H many names ps its 112 (.ref a) := .inr (.inr (.inr (.inr (.inl ⟨rfl, a, xs, rfl, h, f, h1, h2⟩))))
theorem few4 {α : Type} {l : List α} (h : Nat.ble l.length 4 = true) : l.length ≤ 4 := Nat.le_of_ble_eq_true h
theorem vNe {c : Nat} (h : c ≠ 120 ∧ c ≠ 98 ∧ c ≠ 112) : c ≠ 120 ∧ c ≠ 98 ∧ c ≠ 112 := h
theorem thP {K : PySem.W.Frag} {H : Hp} {names cells : Nat} {ps : List Int} {p : Pt} {u : V} (h : PtAt K H p u) (hw : p.wf names cells = true) :
    ∃ a wd its sh, u = .ref a ∧ ThAt K H cells names ps false a wd its sh p.items := by
  cases p with
  | num n =>
    obtain ⟨a, rfl, ht⟩ := h
    have hw' : 0 ≤ n ∧ n < 10007 := by simpa [Pt.wf] using hw
    refine ⟨a, _, _, "n", rfl, ht, .inr (.inr ⟨rfl, by decide +kernel, by kernel_rfl⟩), rfl, few4 (by rfl), by kernel_rfl, fun i it u e1 e2 => ?_⟩
    match i, e1, e2 with
    | 0, e1, e2 => cases e1; cases e2; exact ⟨okN hw', vNe (by decide)⟩
    | i + 1, e1, e2 => simp [Pt.items] at e1
  | name k =>
    obtain ⟨a, rfl, ht⟩ := h
    have hw' : k < names := by simpa [Pt.wf] using hw
    refine ⟨a, _, _, "k", rfl, ht, .inr (.inr ⟨rfl, by decide +kernel, by kernel_rfl⟩), rfl, few4 (by rfl), by kernel_rfl, fun i it u e1 e2 => ?_⟩
    match i, e1, e2 with
    | 0, e1, e2 => cases e1; cases e2; exact ⟨okK ⟨by omega, by omega⟩, vNe (by decide)⟩
    | i + 1, e1, e2 => simp [Pt.items] at e1
  | cell k =>
    obtain ⟨a, rfl, ht⟩ := h
    have hw' : k < cells := by simpa [Pt.wf] using hw
    refine ⟨a, _, _, "c", rfl, ht, .inr (.inr ⟨rfl, by decide +kernel, by kernel_rfl⟩), rfl, few4 (by rfl), by kernel_rfl, fun i it u e1 e2 => ?_⟩
    match i, e1, e2 with
    | 0, e1, e2 => cases e1; cases e2; exact ⟨okC ⟨by omega, by omega⟩, vNe (by decide)⟩
    | i + 1, e1, e2 => simp [Pt.items] at e1
  | two o x y =>
    obtain ⟨a, vx, vy, rfl, ht, hx, hy⟩ := h
    refine ⟨a, _, _, "xx", rfl, ht, .inr (.inl ⟨rfl, by cases o <;> decide +kernel, rfl⟩), rfl, few4 (by rfl), by kernel_rfl, fun i it u e1 e2 => ?_⟩
    match i, e1, e2 with
    | 0, e1, e2 => cases e1; cases e2; exact ⟨okX, hx⟩
    | 1, e1, e2 => cases e1; cases e2; exact ⟨okX, hy⟩
    | i + 2, e1, e2 => simp [Pt.items] at e1
theorem thD {K : PySem.W.Frag} {H : Hp} {names cells : Nat} {params : List Nat} {d : Dd} {u : V} (h : DdAt K H d u) (hw : d.wf names cells params = true) :
    ∃ a wd its sh, u = .ref a ∧ ThAt K H cells names (params.map Int.ofNat) true a wd its sh d.items := by
  cases d with
  | set k x =>
    obtain ⟨a, vx, rfl, ht, hx⟩ := h
    have hw' : k < names ∧ x.wf names cells = true := by simpa [Dd.wf] using hw
    refine ⟨a, _, _, "kx", rfl, ht, .inl ⟨rfl, by kernel_rfl⟩, rfl, few4 (by rfl), by kernel_rfl, fun i it u e1 e2 => ?_⟩
    match i, e1, e2 with
    | 0, e1, e2 => cases e1; cases e2; exact ⟨okK ⟨by omega, by omega⟩, vNe (by decide)⟩
    | 1, e1, e2 => cases e1; cases e2; exact ⟨okX, hx⟩
    | i + 2, e1, e2 => simp [Dd.items] at e1
  | put k x =>
    obtain ⟨a, vx, rfl, ht, hx⟩ := h
    have hw' : k < cells ∧ x.wf names cells = true := by simpa [Dd.wf] using hw
    refine ⟨a, _, _, "cx", rfl, ht, .inl ⟨rfl, by kernel_rfl⟩, rfl, few4 (by rfl), by kernel_rfl, fun i it u e1 e2 => ?_⟩
    match i, e1, e2 with
    | 0, e1, e2 => cases e1; cases e2; exact ⟨okC ⟨by omega, by omega⟩, vNe (by decide)⟩
    | 1, e1, e2 => cases e1; cases e2; exact ⟨okX, hx⟩
    | i + 2, e1, e2 => simp [Dd.items] at e1
  | say x =>
    obtain ⟨a, vx, rfl, ht, hx⟩ := h
    refine ⟨a, _, _, "x", rfl, ht, .inl ⟨rfl, by kernel_rfl⟩, rfl, few4 (by rfl), by kernel_rfl, fun i it u e1 e2 => ?_⟩
    match i, e1, e2 with
    | 0, e1, e2 => cases e1; cases e2; exact ⟨okX, hx⟩
    | i + 1, e1, e2 => simp [Dd.items] at e1
  | ret x =>
    obtain ⟨a, vx, rfl, ht, hx⟩ := h
    refine ⟨a, _, _, "x", rfl, ht, .inl ⟨rfl, by kernel_rfl⟩, rfl, few4 (by rfl), by kernel_rfl, fun i it u e1 e2 => ?_⟩
    match i, e1, e2 with
    | 0, e1, e2 => cases e1; cases e2; exact ⟨okX, hx⟩
    | i + 1, e1, e2 => simp [Dd.items] at e1
  | iff x b c =>
    obtain ⟨a, vx, vb, vc, bs, cs, rfl, ht, hx, h1, h2, h3, h4⟩ := h
    refine ⟨a, _, _, "xbb", rfl, ht, .inl ⟨rfl, by kernel_rfl⟩, rfl, few4 (by rfl), by kernel_rfl, fun i it u e1 e2 => ?_⟩
    match i, e1, e2 with
    | 0, e1, e2 => cases e1; cases e2; exact ⟨okX, hx⟩
    | 1, e1, e2 => cases e1; cases e2; exact ⟨okB h1, _, _, rfl, h1, h2⟩
    | 2, e1, e2 => cases e1; cases e2; exact ⟨okB h3, _, _, rfl, h3, h4⟩
    | i + 3, e1, e2 => simp [Dd.items] at e1
  | again x b =>
    obtain ⟨a, vx, vb, bs, rfl, ht, hx, h1, h2⟩ := h
    refine ⟨a, _, _, "xb", rfl, ht, .inl ⟨rfl, by kernel_rfl⟩, rfl, few4 (by rfl), by kernel_rfl, fun i it u e1 e2 => ?_⟩
    match i, e1, e2 with
    | 0, e1, e2 => cases e1; cases e2; exact ⟨okX, hx⟩
    | 1, e1, e2 => cases e1; cases e2; exact ⟨okB h1, _, _, rfl, h1, h2⟩
    | i + 2, e1, e2 => simp [Dd.items] at e1
  | call f xs k =>
    obtain ⟨a, vp, vs, rfl, ht, h1, h2⟩ := h
    have hw' : params[f]? = some xs.length ∧ k < names ∧ wfPs names cells xs = true := by simpa [Dd.wf] using hw
    have hf : f < params.length := (List.getElem?_eq_some_iff.mp hw'.1).1
    refine ⟨a, _, _, "fpk", rfl, ht, .inl ⟨rfl, by kernel_rfl⟩, rfl, few4 (by rfl), by kernel_rfl, fun i it u e1 e2 => ?_⟩
    match i, e1, e2 with
    | 0, e1, e2 => cases e1; cases e2; exact ⟨okF ⟨by omega, by rw [List.length_map]; omega⟩, vNe (by decide)⟩
    | 1, e1, e2 =>
      cases e1; cases e2
      refine ⟨okP (f := f) h1 rfl ?_, _, _, rfl, h1, h2⟩
      rw [List.getElem?_map, hw'.1, h2.len]; rfl
    | 2, e1, e2 => cases e1; cases e2; exact ⟨okK ⟨by omega, by omega⟩, vNe (by decide)⟩
    | i + 3, e1, e2 => simp [Dd.items] at e1
theorem szP_items (p : Pt) : p.sz = 1 + szIs p.items := by cases p <;> simp [Pt.sz, Pt.items, szIs, Itm.sz] <;> omega
theorem szD_items (d : Dd) : d.sz = 1 + szIs d.items := by cases d <;> simp [Dd.sz, Dd.items, szIs, Itm.sz] <;> omega
theorem dpP_items (p : Pt) : ∀ it ∈ p.items, it.dp + 1 ≤ p.dp := by cases p <;> simp [Pt.dp, Pt.items, Itm.dp] <;> omega
theorem dpD_items (d : Dd) : ∀ it ∈ d.items, it.dp + 1 ≤ d.dp := by cases d <;> simp [Dd.dp, Dd.items, Itm.dp] <;> omega
theorem wfP_items (names cells : Nat) (params : List Nat) (p : Pt) (h : p.wf names cells = true) : ∀ it ∈ p.items, it.wf names cells params = true := by cases p <;> simp [Pt.wf, Pt.items, Itm.wf] at h ⊢ <;> exact h
theorem wfD_items (names cells : Nat) (params : List Nat) (d : Dd) (h : d.wf names cells params = true) : ∀ it ∈ d.items, it.wf names cells params = true := by
  cases d <;> simp [Dd.wf, Dd.items, Itm.wf] at h ⊢ <;> first | exact h | exact h.2 | exact h.2.2
theorem xP_items (p : Pt) : ∀ it ∈ p.items, (∃ c, it = .v c) ∨ ∃ q, it = .x q := by cases p <;> simp [Pt.items]
end SD
set_option Elab.async false
set_option linter.all false
set_option maxRecDepth 100000
set_option maxHeartbeats 4000000
namespace SD
open PySem PySem.Spec PyProof.Rows L2
/-! ### Looker.begin -/
abbrev LkC (K : PySem.W.Frag) (l dx : Addr) (many : Int) (pl : Addr) (names seen : Int) (ps : List Int) (R : List (Addr × HO)) : List (Addr × HO) := (l, lkO K dx many pl names seen) :: (pl, .lst (ps.map V.int)) :: R
def sp_Looker_begin (K : PySem.W.Frag) (w : World) : Sp := fun vs H Q _ => ∃ (l dx pl ta : Addr) (many names seen deep : Int) (ps : List Int) (isd : Bool) (wd sh : Str) (its : List V) (items : List Itm) (R : List (Addr × HO)), vs = [.ref l, .ref ta, .bl isd, .int deep] ∧
  Holds H (LkC K l dx many pl names seen ps R) ∧ ThAt K H many names ps isd ta wd its sh items ∧ seen < 100 ∧ 0 ≤ seen ∧ deep ≤ 8 ∧
  ∀ H', Imm H H' → Holds H' (LkC K l dx many pl names (seen + 1) ps R) → Q (.str sh) H'
abbrev n_m_Looker_begin : List Str := ["self", "thing", "is_deed", "deep", "at", "shape", "kind", "part"]
def t_m_Looker_begin (K : PySem.W.Frag) (w : World)  : TS :=
 (tSeq (tAsg (xfLooker_seen K (tVar 0)) (gName 4))
 (tSeq (tIfS (tTest (tOp rEq (tVar 4) (tC (.int 100)))) tNever tNext)
 (tSeq (xsLooker_seen K (tVar 0) (tOp (rI0 fun i j => .int (i + j)) (tVar 4) (tC (.int 1))))
 (tSeq (tIfS (tTest (tOp (rI0 fun i j => .bl (decide (j < i))) (tVar 3) (tC (.int 8)))) tNever tNext)
 (tSeq (tIfS (tOr (tNot (tB (tCB (rIsi' K) (tCons (tVar 1) (tCons (tC (.ty "tuple")) tNil))))) (tOr (tTest (tOp rEq (tCB (rLenS' K) (tCons (tVar 1) tNil)) (tC (.int 0)))) (tNot (tB (tCB (rIsi' K) (tCons (tOp (rIxT K) (tVar 1) (tC (.int 0))) (tCons (tC (.ty "str")) tNil))))))) tNever tNext)
 (tSeq (tAsg (tIf (tB (tVar 2)) (tKGet K w (tC (.ref (He.ga K "DEEDS"))) (tOp (rIxT K) (tVar 1) (tC (.int 0))) (tC .non)) (tIf (tTest (tOp (rIn K false) (tOp (rIxT K) (tVar 1) (tC (.int 0))) (tC (.ref (He.ga K "TWO"))))) (tC (.str "xx")) (tKGet K w (tC (.ref (He.ga K "PARTS"))) (tOp (rIxT K) (tVar 1) (tC (.int 0))) (tC .non)))) (gName 5))
 (tSeq (tIfS (tOr (tTest (tOp rIsN (tVar 5) (tC .non))) (tTest (tOp rNe (tCB (rLenS' K) (tCons (tVar 1) tNil)) (tOp (rI0 fun i j => .int (i + j)) (tCB rLenStr (tCons (tVar 5) tNil)) (tC (.int 1)))))) tNever tNext)
 (tSeq (tFor (iZipST K (tCons (tVar 5) (tCons (tSl (rSlT K) (tVar 1) (tPart (tC (.int 1))) tNoPart) tNil))) (gTup K 2 (gCons (gName 6) (gCons (gName 7) gNil))) (tIfS (tOr (tAnd (tTest (tOp rInS (tVar 6) (tC (.str "nkcf")))) (tNot (tB (tCall (sp_is_number K w) [] E0 (tCons (tVar 7) tNil))))) (tAnd (tTest (tOp rInS (tVar 6) (tC (.str "bp")))) (tNot (tB (tCB (rIsi' K) (tCons (tVar 7) (tCons (tC (.ty "tuple")) tNil))))))) tNever tNext))
 (tSeq (tFor (iZipST K (tCons (tVar 5) (tCons (tSl (rSlT K) (tVar 1) (tPart (tC (.int 1))) tNoPart) tNil))) (gTup K 2 (gCons (gName 6) (gCons (gName 7) gNil))) (tDrop (tMeth (He.ga K "Looker") "bounds" (sp_Looker_bounds K w) [] E0 (tVar 0) (tCons (tVar 6) (tCons (tVar 7) (tCons (tVar 1) (tCons (tVar 4) tNil)))))))
 (tRet (tVar 5)))))))))))
/-- a loop over zip(text, a new tail of a tuple) -/
theorem for_zipTail {K : PySem.W.Frag} {tb : TS} {D : Ends} {σ : L2.St} {H : Hp} {sh : Str} {ta : Addr} {x : V} {its : List V} {j i6 i7 : Nat} (hσ : σ[j]? = some (some (.ref ta))) (ht : SqT K H ta (x :: its)) (hsz : sh.cps.size = its.length)
    (Pv : Nat → L2.St → Hp → Prop) (h0 : ∀ H1, Same H H1 → Pv 0 σ H1)
    (hs : ∀ (i c : Nat) (u : V) (σ1 : L2.St) (H1 H2 : Hp) (G : Hp → Prop), sh.cps[i]? = some c → its[i]? = some u → Pv i σ1 H1 → Same H1 H2 → (∀ H3, Imm H2 H3 → G H3) →
      tb { D with nx := fun σ2 H3 => Pv (i + 1) σ2 H3 ∧ G H3, ct := fun σ2 H3 => Pv (i + 1) σ2 H3 ∧ G H3, bk := D.nx } ((σ1.set i6 (some (.str ⟨#[c]⟩))).set i7 (some u)) H2)
    (hd : ∀ σ1 H1, Pv its.length σ1 H1 → D.nx σ1 H1) :
    tFor (iZipST K (tCons (tC (.str sh)) (tCons (tSl (rSlT K) (tVar j) (tPart (tC (.int 1))) tNoPart) tNil))) (gTup K 2 (gCons (gName i6) (gCons (gName i7) gNil))) tb D σ H := by
  refine ⟨_, hσ, 1, rfl, ta, _, rfl, ht, notWhole1 x its, fun p hp => ?_⟩
  have ec : cutV (x :: its) (some 1) none = its := by rw [cut1]; rfl
  rw [ec]
  refine ⟨sh, p, its, rfl, .inl (.inl upd_same), ?_⟩
  have hm : min sh.cps.size its.length = its.length := by rw [hsz]; exact Nat.min_self _
  have W := walk_zipST (K := K) (x := sh) (b := p) (ys := its)
  rw [hm] at W
  refine for_it W (fun i σ1 H1 => Pv i σ1 H1 ∧ SqT K H1 p its) ⟨h0 _ (same_new hp _), .inl (.inl upd_same)⟩ (fun i σ1 H1 _ q => q.2) (fun i u σ1 H1 H2 hlt q y => ?_) fun σ1 H1 q => hd σ1 H1 q.1
  obtain ⟨T, c, u, rfl, hT, rfl, hc, hu⟩ := y
  have iT := Imm.new (o := .tup [.str ⟨#[c]⟩, u]) hT
  refine ⟨T, _, rfl, .inl (.inl upd_same), rfl, _, _, rfl, _, _, rfl, rfl, ?_⟩
  exact hs i c u σ1 H1 _ (fun H3 => SqT K H3 p its) hc hu q.1 (same_new hT _) fun H3 im => im.t (iT.t q.2)
theorem atI0 {α : Type} {x : α} {xs : List α} : atI (x :: xs) 0 = some x := atI_nat (j := 0) rfl
theorem Holds.same {H H' : Hp} {L : List (Addr × HO)} (h : Holds H L) (s : Same H H') : Holds H' L := ⟨h.nd, fun p m => s _ _ (h.at_ p m)⟩
theorem kc_in {c : Nat} (z : Str) (h : c ∈ z.cps.toList) : decide (c ∈ z.cps.toList) = true := decide_eq_true h
theorem pu_m_Looker_begin {K : PySem.W.Frag} {w : World} (B : Tb K w) (vs : List V) (H : Hp) (Q : VK) (E : XK) (h : sp_Looker_begin K w vs H Q E) : t_m_Looker_begin K w { nx := fun _ H' => Q .non H', rt := Q } (start n_m_Looker_begin vs) H := by
  obtain ⟨l, dx, pl, ta, many, names, seen, deep, ps, isd, wd, sh, its, items, R, rfl, hH, T, hs, hs0, hd, q⟩ := h
  have hsz := T.size
  have hlen : its.length ≤ 4 := by rw [← T.len]; exact T.few
  refine ⟨_, rfl, l, dx, _, _, _, _, rfl, hH.head, ?_⟩
  refine ⟨_, rfl, rfl, _, rfl, iteDF (fun z => by have := V.int.inj z; omega) ?_⟩
  refine ⟨_, rfl, _, _, rfl, rfl, _, rfl, l, dx, _, _, _, _, rfl, hH.head, ?_⟩
  have h1 := hH.upd (o' := lkO K dx many pl names (seen + 1))
  have i1 := hH.imm (o' := lkO K dx many pl names (seen + 1)) rfl
  generalize hHH : upd H l (lkO K dx many pl names (seen + 1)) = H1 at h1 i1 ⊢
  have T1 := T.mono i1
  refine ⟨_, rfl, _, _, rfl, rfl, _, rfl, iteDF (by omega) ?_⟩
  refine ⟨_, rfl, _, _, _, rfl, isi_tup T1.tup, _, rfl, iteF ⟨_, rfl, _, _, rfl, .inr T1.tup, rfl, _, rfl, iteDF (fun z => by have := V.int.inj z; rw [List.length_cons] at this; omega) ⟨_, rfl, ta, _, 0, _, rfl, rfl, T1.tup, atI0, _, _, _, rfl, isi_strS K H1 wd, _, rfl, iteF ?_⟩⟩⟩
  have key : ∀ D, tSeq (tIfS (tOr (tTest (tOp rIsN (tVar 5) (tC .non))) (tTest (tOp rNe (tCB (rLenS' K) (tCons (tVar 1) tNil)) (tOp (rI0 fun i j => .int (i + j)) (tCB rLenStr (tCons (tVar 5) tNil)) (tC (.int 1)))))) tNever tNext)
     (tSeq (tFor (iZipST K (tCons (tVar 5) (tCons (tSl (rSlT K) (tVar 1) (tPart (tC (.int 1))) tNoPart) tNil))) (gTup K 2 (gCons (gName 6) (gCons (gName 7) gNil))) (tIfS (tOr (tAnd (tTest (tOp rInS (tVar 6) (tC (.str "nkcf")))) (tNot (tB (tCall (sp_is_number K w) [] E0 (tCons (tVar 7) tNil))))) (tAnd (tTest (tOp rInS (tVar 6) (tC (.str "bp")))) (tNot (tB (tCB (rIsi' K) (tCons (tVar 7) (tCons (tC (.ty "tuple")) tNil))))))) tNever tNext))
     (tSeq (tFor (iZipST K (tCons (tVar 5) (tCons (tSl (rSlT K) (tVar 1) (tPart (tC (.int 1))) tNoPart) tNil))) (gTup K 2 (gCons (gName 6) (gCons (gName 7) gNil))) (tDrop (tMeth (He.ga K "Looker") "bounds" (sp_Looker_bounds K w) [] E0 (tVar 0) (tCons (tVar 6) (tCons (tVar 7) (tCons (tVar 1) (tCons (tVar 4) tNil)))))))
     (tRet (tVar 5)))) { nx := D, rt := Q } [some (.ref l), some (.ref ta), some (.bl isd), some (.int deep), some (.int seen), some (.str sh), none, none] H1 := by
    intro D
    refine ⟨_, rfl, rfl, _, rfl, iteF ⟨_, rfl, _, _, rfl, .inr T1.tup, _, rfl, sh, rfl, ?_, _, _, rfl, rfl, rfl, _, rfl, iteNF ?_ ?_⟩⟩
    · show sh.cps.size ≤ sizeLine
      rw [hsz]; exact Nat.le_trans hlen (by decide)
    · show V.int _ = V.int _
      rw [show sh.length = its.length from hsz, List.length_cons]; rfl
    refine ⟨_, rfl, ?_⟩
    refine for_zipTail (ta := ta) (x := .str wd) (its := its) (j := 1) (i6 := 6) (i7 := 7) rfl T1.tup hsz
      (fun i σ H2 => ∃ x6 x7, σ = [some (.ref l), some (.ref ta), some (.bl isd), some (.int deep), some (.int seen), some (.str sh), x6, x7] ∧ Same H1 H2)
      (fun H2 s => ⟨_, _, rfl, s⟩) (fun i c u σ1 H2 H3 G hc hu hP s2 hG => ?_) fun σ1 H2 hP => ?_
    · obtain ⟨x6, x7, rfl, s1⟩ := hP
      obtain ⟨it, e1, e2, a1, a2⟩ := (T1.mono ((Imm.same s1).trans (Imm.same s2))).item hc hu
      have fin : (fun σ2 H3 => (∃ x6 x7, σ2 = [some (V.ref l), some (.ref ta), some (.bl isd), some (.int deep), some (.int seen), some (.str sh), x6, x7] ∧ Same H1 H3) ∧ G H3) [some (.ref l), some (.ref ta), some (.bl isd), some (.int deep), some (.int seen), some (.str sh), some (.str ⟨#[c]⟩), some u] H3 :=
        ⟨⟨_, _, rfl, s1.trans s2⟩, hG _ (Imm.refl _)⟩
      have hin : ∀ {c : Nat} {z : Str} {b : Bool}, decide (c ∈ z.cps.toList) = b → ∀ {A B : Prop}, (if b = true then A else B) → (if decide (c ∈ z.cps.toList) = true then A else B) := fun e _ _ r => by rw [e]; exact r
      subst e2
      rcases a1 with ⟨e, i, rfl, _⟩ | ⟨e, i, rfl, _⟩ | ⟨e, i, rfl, _⟩ | ⟨e, i, rfl, _⟩ | ⟨e, a, xs, rfl, hx, _⟩ | ⟨e, a, xs, rfl, hx⟩ | e
      all_goals rw [e]; rw [e] at fin
      · exact ⟨_, rfl, _, _, rfl, rfl, _, rfl, hin (by decide +kernel) (iteT ⟨_, rfl, i, rfl, _, rfl, iteF ⟨_, rfl, _, _, rfl, rfl, _, rfl, hin (by decide +kernel) (iteF (iteF fin))⟩⟩)⟩
      · exact ⟨_, rfl, _, _, rfl, rfl, _, rfl, hin (by decide +kernel) (iteT ⟨_, rfl, i, rfl, _, rfl, iteF ⟨_, rfl, _, _, rfl, rfl, _, rfl, hin (by decide +kernel) (iteF (iteF fin))⟩⟩)⟩
      · exact ⟨_, rfl, _, _, rfl, rfl, _, rfl, hin (by decide +kernel) (iteT ⟨_, rfl, i, rfl, _, rfl, iteF ⟨_, rfl, _, _, rfl, rfl, _, rfl, hin (by decide +kernel) (iteF (iteF fin))⟩⟩)⟩
      · exact ⟨_, rfl, _, _, rfl, rfl, _, rfl, hin (by decide +kernel) (iteT ⟨_, rfl, i, rfl, _, rfl, iteF ⟨_, rfl, _, _, rfl, rfl, _, rfl, hin (by decide +kernel) (iteF (iteF fin))⟩⟩)⟩
      · exact ⟨_, rfl, _, _, rfl, rfl, _, rfl, hin (by decide +kernel) (iteF (iteF ⟨_, rfl, _, _, rfl, rfl, _, rfl, hin (by decide +kernel) (iteT ⟨_, rfl, _, _, _, rfl, isi_tup hx, _, rfl, iteF fin⟩)⟩))⟩
      · exact ⟨_, rfl, _, _, rfl, rfl, _, rfl, hin (by decide +kernel) (iteF (iteF ⟨_, rfl, _, _, rfl, rfl, _, rfl, hin (by decide +kernel) (iteT ⟨_, rfl, _, _, _, rfl, isi_tup hx, _, rfl, iteF fin⟩)⟩))⟩
      · exact ⟨_, rfl, _, _, rfl, rfl, _, rfl, hin (by decide +kernel) (iteF (iteF ⟨_, rfl, _, _, rfl, rfl, _, rfl, hin (by decide +kernel) (iteF (iteF fin))⟩))⟩
    · obtain ⟨x6, x7, rfl, s1⟩ := hP
      refine ⟨_, rfl, ?_⟩
      have h2 := h1.same s1
      refine for_zipTail (ta := ta) (x := .str wd) (its := its) (j := 1) (i6 := 6) (i7 := 7) rfl ((Imm.same s1).t T1.tup) hsz
        (fun i σ H3 => ∃ x6 x7, σ = [some (.ref l), some (.ref ta), some (.bl isd), some (.int deep), some (.int seen), some (.str sh), x6, x7] ∧ Imm H1 H3 ∧ Holds H3 (LkC K l dx many pl names (seen + 1) ps R))
        (fun H3 s => ⟨_, _, rfl, (Imm.same s1).trans (Imm.same s), h2.same s⟩) (fun i c u σ1 H3 H4 G hc hu hP s2 hG => ?_) fun σ1 H3 hP => ?_
      · obtain ⟨y6, y7, rfl, i3, h3⟩ := hP
        have i4 := i3.trans (Imm.same s2)
        have h4 := h3.same s2
        obtain ⟨it, e1, e2, a1, a2⟩ := (T1.mono i4).item hc hu
        subst e2
        refine ⟨_, rfl, l, dx, _, rfl, h4.head, nmLooker_bounds, _, rfl, _, rfl, _, rfl, _, rfl, ?_⟩
        exact ⟨l, dx, pl, ta, many, names, seen + 1, seen, ps, it.code, u, wd, its, R, rfl, h4, i4.t T1.tup, a1, fun H5 i5 h5 => ⟨⟨_, _, rfl, i4.trans i5, h5⟩, hG _ i5⟩⟩
      · obtain ⟨y6, y7, rfl, i3, h3⟩ := hP
        exact ⟨_, rfl, q H3 (i1.trans i3) h3⟩
  rcases T.shp with ⟨rfl, e⟩ | ⟨rfl, e1, rfl⟩ | ⟨rfl, e1, e⟩
  · refine ⟨_, rfl, _, rfl, iteT ⟨_, _, rfl, B.deeds, _, rfl, ta, _, 0, _, rfl, rfl, T1.tup, atI0, _, rfl, ?_⟩⟩
    rw [e]
    exact key _
  · refine ⟨_, rfl, _, rfl, iteF ⟨_, rfl, ta, _, 0, _, rfl, rfl, T1.tup, atI0, _, _, rfl, .inr (B.two _), rfl, rfl, _, rfl, ?_⟩⟩
    show if inV (.str wd) twoL = true then _ else _
    rw [if_pos e1]
    exact key _
  · refine ⟨_, rfl, _, rfl, iteF ⟨_, rfl, ta, _, 0, _, rfl, rfl, T1.tup, atI0, _, _, rfl, .inr (B.two _), rfl, rfl, _, rfl, ?_⟩⟩
    show if inV (.str wd) twoL = true then _ else _
    rw [if_neg (by rw [e1]; exact Bool.false_ne_true)]
    refine ⟨_, _, rfl, B.parts, _, rfl, ta, _, 0, _, rfl, rfl, T1.tup, atI0, _, rfl, ?_⟩
    rw [e]
    exact key _
end SD
set_option Elab.async false
set_option linter.all false
set_option maxRecDepth 100000
set_option maxHeartbeats 4000000
namespace SD
open PySem PySem.Spec PyProof.Rows L2
/-! ### Looker.part -/
def sp_Looker_part (n : Nat) (K : PySem.W.Frag) (w : World) : Sp := fun vs H Q _ => ∃ (l dx pl : Addr) (many names : Nat) (seen deep : Int) (ps : List Int) (p : Pt) (vp : V) (R : List (Addr × HO)), vs = [.ref l, vp, .int deep] ∧ p.dp ≤ n ∧
  Holds H (LkC K l dx many pl names seen ps R) ∧ PtAt K H p vp ∧ p.wf names many = true ∧ seen + p.sz ≤ 100 ∧ 0 ≤ seen ∧ deep + p.dp ≤ 9 ∧
  ∀ H', Imm H H' → Holds H' (LkC K l dx many pl names (seen + p.sz) ps R) → Q .non H'
abbrev n_m_Looker_part : List Str := ["self", "part", "deep", "kind", "inner"]
def t_m_Looker_part (K : PySem.W.Frag) (w : World) (n : Nat) : TS :=
 (tFor (iZipST K (tCons (tMeth (He.ga K "Looker") "begin" (sp_Looker_begin K w) [] E0 (tVar 0) (tCons (tVar 1) (tCons (tC (.bl false)) (tCons (tVar 2) tNil)))) (tCons (tSl (rSlT K) (tVar 1) (tPart (tC (.int 1))) tNoPart) tNil))) (gTup K 2 (gCons (gName 3) (gCons (gName 4) gNil))) (tIfS (tTest (tOp rEq (tVar 3) (tC (.str "x")))) (tDrop (tMeth (He.ga K "Looker") "part" (sp_Looker_part n K w) [] E0 (tVar 0) (tCons (tVar 4) (tCons (tOp (rI0 fun i j => .int (i + j)) (tVar 2) (tC (.int 1))) tNil)))) tNext))
theorem code_x {it : Itm} (h : it.code = 120) (nv : ∀ c, it = .v c → c ≠ 120 ∧ c ≠ 98 ∧ c ≠ 112) : ∃ p, it = .x p := by
  cases it with
  | v c => exact absurd h (nv c rfl).1
  | x p => exact ⟨p, rfl⟩
  | bd l => exact absurd h (by show (98 : Nat) ≠ 120; decide)
  | ps l => exact absurd h (by show (112 : Nat) ≠ 120; decide)
theorem strX {c : Nat} : (V.str ⟨#[c]⟩ = V.str "x") = (c = 120) := propext ⟨fun h => by have h2 := V.str.inj h; have h3 : (⟨#[c]⟩ : Str) = ⟨#[120]⟩ := h2; injection h3 with h4; injection h4 with h5; injection h5, fun h => by rw [h]; rfl⟩
theorem strB {c : Nat} : (V.str ⟨#[c]⟩ = V.str "b") = (c = 98) := propext ⟨fun h => by have h2 := V.str.inj h; have h3 : (⟨#[c]⟩ : Str) = ⟨#[98]⟩ := h2; injection h3 with h4; injection h4 with h5; injection h5, fun h => by rw [h]; rfl⟩
theorem strP {c : Nat} : (V.str ⟨#[c]⟩ = V.str "p") = (c = 112) := propext ⟨fun h => by have h2 := V.str.inj h; have h3 : (⟨#[c]⟩ : Str) = ⟨#[112]⟩ := h2; injection h3 with h4; injection h4 with h5; injection h5, fun h => by rw [h]; rfl⟩
theorem pu_m_Looker_part {K : PySem.W.Frag} {w : World} (n : Nat) (vs : List V) (H : Hp) (Q : VK) (E : XK) (h : sp_Looker_part (n + 1) K w vs H Q E) : t_m_Looker_part K w n { nx := fun _ H' => Q .non H', rt := Q } (start n_m_Looker_part vs) H := by
  obtain ⟨l, dx, pl, many, names, seen, deep, ps, p, vp, R, rfl, hn, hH, hp, hw, hs, hs0, hd, q⟩ := h
  obtain ⟨ta, wd, its, sh, rfl, T⟩ := thP (ps := ps) hp hw
  have hsz := szP_items p
  have hpos := szPt_pos p
  have hdp : 1 ≤ p.dp := by cases p <;> simp [Pt.dp] <;> omega
  refine ⟨_, rfl, l, dx, _, rfl, hH.head, nmLooker_begin, _, rfl, _, rfl, ?_⟩
  refine ⟨l, dx, pl, ta, many, names, seen, deep, ps, false, wd, sh, its, p.items, R, rfl, hH, T, by omega, hs0, by omega, fun H1 i1 h1 => ?_⟩
  have T1 := T.mono i1
  refine for_zipTail (ta := ta) (x := .str wd) (its := its) (j := 1) (i6 := 3) (i7 := 4) rfl T1.tup T.size
    (fun i σ H2 => ∃ x3 x4, σ = [some (.ref l), some (.ref ta), some (.int deep), x3, x4] ∧ Imm H1 H2 ∧ Holds H2 (LkC K l dx many pl names (seen + 1 + szIs (p.items.take i)) ps R))
    (fun H2 s => ⟨_, _, rfl, .same s, by simpa [szIs] using h1.same s⟩) (fun i c u σ1 H2 H3 G hc hu hP s2 hG => ?_) fun σ1 H2 hP => ?_
  · obtain ⟨x3, x4, rfl, i2, h2⟩ := hP
    have i3 := i2.trans (Imm.same s2)
    have h3 := h2.same s2
    obtain ⟨it, e1, e2, a1, a2⟩ := (T1.mono i3).item hc hu
    have hst := szIs_take e1
    have hle := szIs_le p.items (i + 1)
    refine ⟨_, rfl, rfl, _, rfl, ?_⟩
    refine ite2 (fun hx => ?_) fun hx => ?_
    · have hc : c = 120 := by rw [← strX]; exact of_decide_eq_true hx
      have hm := List.mem_of_getElem? e1
      rcases xP_items p it hm with ⟨cc, rfl⟩ | ⟨y, rfl⟩
      · exact absurd (e2.trans hc) a2.1
      have hdy := dpP_items p _ hm
      have hwy := wfP_items names many [] p hw _ hm
      have e0 : (Itm.x y).sz = y.sz := rfl
      have e3 : (Itm.x y).dp = y.dp := rfl
      rw [e0] at hst; rw [e3] at hdy
      refine ⟨_, rfl, l, dx, _, rfl, h3.head, nmLooker_part, _, rfl, _, rfl, _, _, rfl, rfl, ?_⟩
      refine ⟨l, dx, pl, many, names, seen + 1 + szIs (p.items.take i), deep + 1, ps, y, u, R, rfl, by omega, h3, a2, hwy, by omega, by omega, by omega, fun H4 i4 h4 => ?_⟩
      refine ⟨⟨_, _, rfl, i3.trans i4, ?_⟩, hG _ i4⟩
      rw [hst]
      have : seen + 1 + (szIs (p.items.take i) : Int) + (y.sz : Int) = seen + 1 + ((szIs (p.items.take i) + y.sz : Nat) : Int) := by omega
      rw [← this]; exact h4
    · have hz : it.sz = 0 := by
        rcases xP_items p it (List.mem_of_getElem? e1) with ⟨cc, rfl⟩ | ⟨y, rfl⟩
        · rfl
        · exact absurd (by rw [decide_eq_true_eq, strX, ← e2]; rfl) hx
      rw [hz] at hst
      refine ⟨⟨_, _, rfl, i3, ?_⟩, hG _ (Imm.refl _)⟩
      rw [hst]; exact h3
  · obtain ⟨x3, x4, rfl, i2, h2⟩ := hP
    refine q H2 (i1.trans i2) ?_
    rw [← T.len, List.take_length] at h2
    have : seen + 1 + (szIs p.items : Int) = seen + (p.sz : Int) := by omega
    rw [← this]; exact h2
/-! ### Looker.body -/
def sp_Looker_body (n : Nat) (K : PySem.W.Frag) (w : World) : Sp := fun vs H Q _ => ∃ (l dx pl : Addr) (many names : Nat) (seen deep : Int) (params : List Nat) (b : List Dd) (a : Addr) (bs : List V) (R : List (Addr × HO)), vs = [.ref l, .ref a, .int deep] ∧ dpDs b < n ∧
  Holds H (LkC K l dx many pl names seen (params.map Int.ofNat) R) ∧ SqT K H a bs ∧ DdsAt K H b bs ∧ wfDs names many params b = true ∧ seen + szDs b ≤ 100 ∧ 0 ≤ seen ∧ deep + dpDs b ≤ 9 ∧
  ∀ H', Imm H H' → Holds H' (LkC K l dx many pl names (seen + szDs b) (params.map Int.ofNat) R) → Q .non H'
theorem szDs_take {d : Dd} : ∀ {b : List Dd} {i : Nat}, b[i]? = some d → szDs (b.take (i + 1)) = szDs (b.take i) + d.sz
  | [], i, h => by simp at h
  | x :: r, 0, h => by
    have e : x = d := by simpa using h
    subst e
    simp [szDs]
  | x :: r, i + 1, h => by
    have := szDs_take (b := r) (i := i) (by simpa using h)
    show x.sz + szDs (r.take (i + 1)) = x.sz + szDs (r.take i) + d.sz
    omega
theorem szDs_le : ∀ (b : List Dd) (i : Nat), szDs (b.take i) ≤ szDs b
  | [], i => by simp [szDs]
  | x :: r, 0 => by simp [szDs]
  | x :: r, i + 1 => by have := szDs_le r i; show x.sz + szDs (r.take i) ≤ x.sz + szDs r; omega
theorem dpDs_get {d : Dd} : ∀ {b : List Dd} {i : Nat}, b[i]? = some d → d.dp ≤ dpDs b
  | [], i, h => by simp at h
  | x :: r, 0, h => by
    have e : x = d := by simpa using h
    subst e
    show x.dp ≤ max x.dp (dpDs r)
    omega
  | x :: r, i + 1, h => by have := dpDs_get (b := r) (i := i) (by simpa using h); show d.dp ≤ max x.dp (dpDs r); omega
theorem wfDs_get {names cells : Nat} {params : List Nat} {d : Dd} : ∀ {b : List Dd} {i : Nat}, wfDs names cells params b = true → b[i]? = some d → d.wf names cells params = true
  | [], i, _, h => by simp at h
  | x :: r, 0, hw, h => by
    have e : x = d := by simpa using h
    subst e
    simp only [wfDs, Bool.and_eq_true] at hw; exact hw.1
  | x :: r, i + 1, hw, h => by simp only [wfDs, Bool.and_eq_true] at hw; exact wfDs_get (b := r) (i := i) hw.2 (by simpa using h)
theorem szPs_take {d : Pt} : ∀ {b : List Pt} {i : Nat}, b[i]? = some d → szPs (b.take (i + 1)) = szPs (b.take i) + d.sz
  | [], i, h => by simp at h
  | x :: r, 0, h => by
    have e : x = d := by simpa using h
    subst e
    simp [szPs]
  | x :: r, i + 1, h => by
    have := szPs_take (b := r) (i := i) (by simpa using h)
    show x.sz + szPs (r.take (i + 1)) = x.sz + szPs (r.take i) + d.sz
    omega
theorem szPs_le : ∀ (b : List Pt) (i : Nat), szPs (b.take i) ≤ szPs b
  | [], i => by simp [szPs]
  | x :: r, 0 => by simp [szPs]
  | x :: r, i + 1 => by have := szPs_le r i; show x.sz + szPs (r.take i) ≤ x.sz + szPs r; omega
theorem dpPs_get {d : Pt} : ∀ {b : List Pt} {i : Nat}, b[i]? = some d → d.dp ≤ dpPs b
  | [], i, h => by simp at h
  | x :: r, 0, h => by
    have e : x = d := by simpa using h
    subst e
    show x.dp ≤ max x.dp (dpPs r)
    omega
  | x :: r, i + 1, h => by have := dpPs_get (b := r) (i := i) (by simpa using h); show d.dp ≤ max x.dp (dpPs r); omega
theorem wfPs_get {names cells : Nat} {d : Pt} : ∀ {b : List Pt} {i : Nat}, wfPs names cells b = true → b[i]? = some d → d.wf names cells = true
  | [], i, _, h => by simp at h
  | x :: r, 0, hw, h => by
    have e : x = d := by simpa using h
    subst e
    simp only [wfPs, Bool.and_eq_true] at hw; exact hw.1
  | x :: r, i + 1, hw, h => by simp only [wfPs, Bool.and_eq_true] at hw; exact wfPs_get (b := r) (i := i) hw.2 (by simpa using h)
abbrev n_m_Looker_body : List Str := ["self", "body", "deep", "deed", "kind", "inner", "one"]
def t_m_Looker_body (K : PySem.W.Frag) (w : World) (n : Nat) : TS :=
 (tFor (iTup K (tVar 1)) (gName 3) (tFor (iZipST K (tCons (tMeth (He.ga K "Looker") "begin" (sp_Looker_begin K w) [] E0 (tVar 0) (tCons (tVar 3) (tCons (tC (.bl true)) (tCons (tVar 2) tNil)))) (tCons (tSl (rSlT K) (tVar 3) (tPart (tC (.int 1))) tNoPart) tNil))) (gTup K 2 (gCons (gName 4) (gCons (gName 5) gNil))) (tIfS (tTest (tOp rEq (tVar 4) (tC (.str "x")))) (tDrop (tMeth (He.ga K "Looker") "part" (sp_Looker_part n K w) [] E0 (tVar 0) (tCons (tVar 5) (tCons (tOp (rI0 fun i j => .int (i + j)) (tVar 2) (tC (.int 1))) tNil)))) (tIfS (tTest (tOp rEq (tVar 4) (tC (.str "b")))) (tDrop (tMeth (He.ga K "Looker") "body" (sp_Looker_body n K w) [] E0 (tVar 0) (tCons (tVar 5) (tCons (tOp (rI0 fun i j => .int (i + j)) (tVar 2) (tC (.int 1))) tNil)))) (tIfS (tTest (tOp rEq (tVar 4) (tC (.str "p")))) (tFor (iTup K (tVar 5)) (gName 6) (tDrop (tMeth (He.ga K "Looker") "part" (sp_Looker_part n K w) [] E0 (tVar 0) (tCons (tVar 6) (tCons (tOp (rI0 fun i j => .int (i + j)) (tVar 2) (tC (.int 1))) tNil))))) tNext)))))
theorem castAdd {a b : Nat} {s : Int} : s + (a : Int) + (b : Int) = s + ((a + b : Nat) : Int) := by omega
theorem pu_m_Looker_body {K : PySem.W.Frag} {w : World} (n : Nat) (vs : List V) (H : Hp) (Q : VK) (E : XK) (h : sp_Looker_body (n + 1) K w vs H Q E) : t_m_Looker_body K w n { nx := fun _ H' => Q .non H', rt := Q } (start n_m_Looker_body vs) H := by
  obtain ⟨l, dx, pl, many, names, seen, deep, params, b, a, bs, R, rfl, hn, hH, ht, hb, hw, hs, hs0, hd, q⟩ := h
  have hlen := hb.len
  refine ⟨_, rfl, a, rfl, ⟨_, ht⟩, ?_⟩
  refine for_it (walk_tup (xs := bs)) (fun i σ H1 => ∃ x3 x4 x5 x6, σ = [some (.ref l), some (.ref a), some (.int deep), x3, x4, x5, x6] ∧ Imm H H1 ∧ Holds H1 (LkC K l dx many pl names (seen + szDs (b.take i)) (params.map Int.ofNat) R))
    ⟨_, _, _, _, rfl, .refl _, by simpa [szDs] using hH⟩ (fun i σ H1 _ ⟨_, _, _, _, _, im, _⟩ => im.t ht) (fun i u σ H1 H2 hlt hP hY => ?_) fun σ H1 hP => ?_
  · obtain ⟨x3, x4, x5, x6, rfl, i1, h1⟩ := hP
    obtain ⟨rfl, hu⟩ := hY
    obtain ⟨d, ed, hdd⟩ := hb.get hu
    have hdw := wfDs_get hw ed
    have hddp := dpDs_get ed
    have hst := szDs_take ed
    have hle := szDs_le b (i + 1)
    have hsz := szD_items d
    have hpos := szDd_pos d
    have hdp1 : 1 ≤ d.dp := by cases d <;> simp [Dd.dp] <;> omega
    obtain ⟨ta, wd, its, sh, rfl, T⟩ := thD (hdd.mono i1) hdw
    have hszI : (d.sz : Int) = 1 + (szIs d.items : Int) := by omega
    refine ⟨_, rfl, l, dx, _, rfl, h1.head, nmLooker_begin, _, rfl, _, rfl, ?_⟩
    refine ⟨l, dx, pl, ta, many, names, _, deep, _, true, wd, sh, its, d.items, R, rfl, h1, T, by omega, by omega, by omega, fun H2 i2 h2 => ?_⟩
    have T1 := T.mono i2
    generalize hS : seen + (szDs (b.take i) : Int) + 1 = S at h2
    refine for_zipTail (ta := ta) (x := .str wd) (its := its) (j := 3) (i6 := 4) (i7 := 5) rfl T1.tup T.size
      (fun k σ H3 => ∃ y4 y5 y6, σ = [some (.ref l), some (.ref a), some (.int deep), some (.ref ta), y4, y5, y6] ∧ Imm H2 H3 ∧ Holds H3 (LkC K l dx many pl names (S + szIs (d.items.take k)) (params.map Int.ofNat) R))
      (fun H3 s => ⟨_, _, _, rfl, .same s, by simpa [szIs] using h2.same s⟩) (fun k c u σ1 H3 H4 G hc hu hP s2 hG => ?_) fun σ1 H3 hP => ?_
    · obtain ⟨y4, y5, y6, rfl, i3, h3⟩ := hP
      have i4 := i3.trans (Imm.same s2)
      have h4 := h3.same s2
      obtain ⟨it, e1, e2, a1, a2⟩ := (T1.mono i4).item hc hu
      have hst2 := szIs_take e1
      have hle2 := szIs_le d.items (k + 1)
      have hm := List.mem_of_getElem? e1
      have hdy := dpD_items d _ hm
      have hwy := wfD_items names many params d hdw _ hm
      refine ⟨_, rfl, rfl, _, rfl, ?_⟩
      cases it with
      | v cc =>
        have hcc : c = cc := e2.symm
        subst hcc
        obtain ⟨n1, n2, n3⟩ := a2
        refine iteDF (by rw [strX]; exact n1) ⟨_, rfl, rfl, _, rfl, iteDF (by rw [strB]; exact n2) ⟨_, rfl, rfl, _, rfl, iteDF (by rw [strP]; exact n3) ?_⟩⟩
        refine ⟨⟨_, _, _, rfl, i4, ?_⟩, hG _ (Imm.refl _)⟩
        rw [hst2]; exact h4
      | x y =>
        have hcc : c = 120 := e2.symm
        subst hcc
        have hst3 : szIs (d.items.take (k + 1)) = szIs (d.items.take k) + y.sz := hst2
        have hdy3 : y.dp + 1 ≤ d.dp := hdy
        refine iteDT (by rw [strX]) ?_
        refine ⟨_, rfl, l, dx, _, rfl, h4.head, nmLooker_part, _, rfl, _, rfl, _, _, rfl, rfl, ?_⟩
        refine ⟨l, dx, pl, many, names, _, deep + 1, _, y, u, R, rfl, by omega, h4, a2, hwy, by omega, by omega, by omega, fun H5 i5 h5 => ⟨⟨_, _, _, rfl, i4.trans i5, ?_⟩, hG _ i5⟩⟩
        rw [hst3, ← castAdd]; exact h5
      | bd y =>
        have hcc : c = 98 := e2.symm
        subst hcc
        obtain ⟨ba, bvs, rfl, g1, g2⟩ := a2
        have hst3 : szIs (d.items.take (k + 1)) = szIs (d.items.take k) + szDs y := hst2
        have hdy3 : dpDs y + 1 ≤ d.dp := hdy
        refine iteDF (by rw [strX]; decide) ⟨_, rfl, rfl, _, rfl, iteDT (by rw [strB]) ?_⟩
        refine ⟨_, rfl, l, dx, _, rfl, h4.head, nmLooker_body, _, rfl, _, rfl, _, _, rfl, rfl, ?_⟩
        refine ⟨l, dx, pl, many, names, _, deep + 1, params, y, ba, bvs, R, rfl, by omega, h4, g1, g2, hwy, by omega, by omega, by omega, fun H5 i5 h5 => ⟨⟨_, _, _, rfl, i4.trans i5, ?_⟩, hG _ i5⟩⟩
        rw [hst3, ← castAdd]; exact h5
      | ps y =>
        have hcc : c = 112 := e2.symm
        subst hcc
        obtain ⟨ba, bvs, rfl, g1, g2⟩ := a2
        have hst3 : szIs (d.items.take (k + 1)) = szIs (d.items.take k) + szPs y := hst2
        have hdy3 : dpPs y + 1 ≤ d.dp := hdy
        have hlen2 := g2.len
        refine iteDF (by rw [strX]; decide) ⟨_, rfl, rfl, _, rfl, iteDF (by rw [strB]; decide) ⟨_, rfl, rfl, _, rfl, iteDT (by rw [strP]) ?_⟩⟩
        refine ⟨_, rfl, ba, rfl, ⟨_, g1⟩, ?_⟩
        refine for_it (walk_tup (xs := bvs)) (fun j σ H5 => ∃ z6, σ = [some (.ref l), some (.ref a), some (.int deep), some (.ref ta), some (.str ⟨#[112]⟩), some (.ref ba), z6] ∧ Imm H4 H5 ∧ Holds H5 (LkC K l dx many pl names (S + szIs (d.items.take k) + szPs (y.take j)) (params.map Int.ofNat) R))
          ⟨_, rfl, .refl _, by simpa [szPs] using h4⟩ (fun j σ H5 _ ⟨_, _, im, _⟩ => im.t g1) (fun j u2 σ H5 H6 hlt2 hP hY => ?_) fun σ H5 hP => ?_
        · obtain ⟨z6, rfl, i5, h5⟩ := hP
          obtain ⟨rfl, hu2⟩ := hY
          obtain ⟨pp, ep, hpp⟩ := g2.get hu2
          have w1 := wfPs_get (show wfPs names many y = true from hwy) ep
          have w2 := dpPs_get ep
          have w3 := szPs_take ep
          have w4 := szPs_le y (j + 1)
          refine ⟨_, rfl, l, dx, _, rfl, h5.head, nmLooker_part, _, rfl, _, rfl, _, _, rfl, rfl, ?_⟩
          refine ⟨l, dx, pl, many, names, _, deep + 1, _, pp, u2, R, rfl, by omega, h5, hpp.mono i5, w1, by omega, by omega, by omega, fun H6 i6 h6 => ⟨_, rfl, i5.trans i6, ?_⟩⟩
          rw [w3, ← castAdd]; exact h6
        · obtain ⟨z6, rfl, i5, h5⟩ := hP
          refine ⟨⟨_, _, _, rfl, i4.trans i5, ?_⟩, hG _ i5⟩
          rw [hlen2, List.take_length] at h5
          rw [hst3, ← castAdd]; exact h5
    · obtain ⟨y4, y5, y6, rfl, i3, h3⟩ := hP
      refine ⟨_, _, _, _, rfl, i1.trans (i2.trans i3), ?_⟩
      rw [← T.len, List.take_length] at h3
      have : S + (szIs d.items : Int) = seen + (szDs (b.take (i + 1)) : Int) := by omega
      rw [← this]; exact h3
  · obtain ⟨x3, x4, x5, x6, rfl, i1, h1⟩ := hP
    refine q H1 i1 ?_
    rw [hlen, List.take_length] at h1
    exact h1
end SD
set_option Elab.async false
set_option linter.all false
set_option maxRecDepth 100000
set_option maxHeartbeats 4000000
namespace SD
open PySem PySem.Spec PyProof.Rows L2
/-! ### need_head -/
def sp_need_head (K : PySem.W.Frag) (w : World) : Sp := fun vs H Q _ => ∃ (p : Prog) (vp : V), vs = [vp] ∧ ProgAt K H p vp ∧ p.Wf ∧ ∀ H', Same H H' → Q .non H'
abbrev n_f_need_head : List Str := ["program", "cells", "funs", "hands", "number", "params", "names", "body", "fun"]
def t_f_need_head (K : PySem.W.Frag) (w : World)  : TS :=
 (tSeq (tAsg (tVar 0) (gTup K 3 (gCons (gName 1) (gCons (gName 2) (gCons (gName 3) gNil)))))
 (tSeq (tIfS (tOr (tNot (tTest (tChain (rI0 fun i j => .bl (decide (i ≤ j))) (rI0 fun i j => .bl (decide (i ≤ j))) (tC (.int 1)) (tCB (rLenS' K) (tCons (tVar 1) tNil)) (tC (.int 8))))) (tTest (tOp (rEqNil K true) (tLc (iTup K (tVar 1)) (gName 4) (tNot (tTest (tChain (rI0 fun i j => .bl (decide (i ≤ j))) (rI0 fun i j => .bl (decide (i < j))) (tC (.int 0)) (tVar 4) (tC (.int 10007))))) (tVar 4) [4]) (tLst tNil)))) tNever tNext)
 (tSeq (tIfS (tNot (tTest (tChain (rI0 fun i j => .bl (decide (i ≤ j))) (rI0 fun i j => .bl (decide (i ≤ j))) (tC (.int 1)) (tCB (rLenS' K) (tCons (tVar 2) tNil)) (tC (.int 4))))) tNever tNext)
 (tSeq (tFor (iTup K (tVar 2)) (gTup K 3 (gCons (gName 5) (gCons (gName 6) (gCons (gName 7) gNil)))) (tIfS (tNot (tTest (tChain3 (rI0 fun i j => .bl (decide (i ≤ j))) (rI0 fun i j => .bl (decide (i ≤ j))) (rI0 fun i j => .bl (decide (i ≤ j))) (tC (.int 0)) (tVar 5) (tVar 6) (tC (.int 4))))) tNever tNext))
 (tSeq (tIfS (tNot (tTest (tChain (rI0 fun i j => .bl (decide (i ≤ j))) (rI0 fun i j => .bl (decide (i ≤ j))) (tC (.int 1)) (tCB (rLenS' K) (tCons (tVar 3) tNil)) (tC (.int 3))))) tNever tNext)
 (tFor (iTup K (tVar 3)) (gName 8) (tIfS (tOr (tNot (tTest (tChain (rI0 fun i j => .bl (decide (i ≤ j))) (rI0 fun i j => .bl (decide (i < j))) (tC (.int 0)) (tVar 8) (tCB (rLenS' K) (tCons (tVar 2) tNil))))) (tTest (tOp (rI0 fun i j => .bl (decide (j < i))) (tOp (rIxT K) (tOp (rIxT K) (tVar 2) (tVar 8)) (tC (.int 0))) (tC (.int 0))))) tNever tNext)))))))
theorem pu_f_need_head {K : PySem.W.Frag} {w : World} (vs : List V) (H : Hp) (Q : VK) (E : XK) (h : sp_need_head K w vs H Q E) : t_f_need_head K w { nx := fun _ H' => Q .non H', rt := Q } (start n_f_need_head vs) H := by
  obtain ⟨p, vp, rfl, ⟨a, c, f, hd, fs, rfl, h1, h2, h3, h4, h5⟩, W, q⟩ := h
  have hl2 : (p.cells.map V.int).length = p.cells.length := List.length_map _
  have hl3 := h4.len
  have hl5 : (p.hands.map fun n => V.int (n : Nat)).length = p.hands.length := List.length_map _
  have c1 := W.cells1
  have c8 := W.cells8
  refine ⟨_, rfl, a, _, rfl, h1, rfl, _, _, rfl, _, _, rfl, _, _, rfl, rfl, ?_⟩
  refine ⟨_, rfl, c, _, rfl, .inr h2, _, _, rfl, rfl, _, rfl, iteDT (by rw [hl2]; omega) ⟨_, _, rfl, rfl, _, rfl, ?_⟩⟩
  rw [decide_eq_true (show ((List.map V.int p.cells).length : Int) ≤ 8 by rw [hl2]; omega)]
  refine iteF ?_
  refine ⟨_, rfl, c, rfl, ⟨_, h2⟩, fun D hD => ?_⟩
  refine lc_it (walk_tup (xs := p.cells.map V.int)) (fun i H1 => Same H H1 ∧ H1 D = some (.lst [])) ⟨same_new hD _, upd_same⟩ (fun i H1 _ q => (Imm.same q.1).t h2) (fun i x H1 H2 hlt hP hY => ?_) fun H1 hP => ?_
  · obtain ⟨rfl, hx⟩ := hY
    rw [List.getElem?_map] at hx
    obtain ⟨n, hn, rfl⟩ := Option.map_eq_some_iff.mp hx
    have hr := W.cellsR n (List.mem_of_getElem? hn)
    refine ⟨rfl, _, rfl, _, _, rfl, rfl, _, rfl, iteDT hr.1 ⟨_, _, rfl, rfl, _, rfl, ?_⟩⟩
    rw [decide_eq_true (show n < 10007 from hr.2)]
    exact iteF hP
  obtain ⟨s1, hD1⟩ := hP
  refine ⟨Nat.zero_le _, fun e he => ?_⟩
  refine ⟨D, e, [], rfl, rfl, SqL.of (by rw [upd_ne (ne_of_none hD1 he)]; exact hD1), SqL.of upd_same, _, rfl, iteF ?_⟩
  have s2 := s1.trans (same_new he (.lst []))
  generalize upd H1 e (.lst []) = H2 at s2
  have f1 := W.funs1
  have f4 := W.funs4
  refine ⟨_, rfl, f, _, rfl, .inr ((Imm.same s2).t h3), _, _, rfl, rfl, _, rfl, iteDT (by rw [hl3]; omega) ⟨_, _, rfl, rfl, _, rfl, ?_⟩⟩
  rw [decide_eq_true (show (fs.length : Int) ≤ 4 by rw [hl3]; omega)]
  refine iteF ?_
  refine ⟨_, rfl, f, rfl, ⟨_, (Imm.same s2).t h3⟩, ?_⟩
  refine for_it (walk_tup (xs := fs)) (fun i σ H3 => ∃ x5 x6 x7, σ = [some (.ref a), some (.ref c), some (.ref f), some (.ref hd), none, x5, x6, x7, none] ∧ Same H H3) ⟨_, _, _, rfl, s2⟩ (fun i σ H3 _ ⟨_, _, _, _, s⟩ => (Imm.same s).t h3) (fun i u σ H3 H4 hlt hP hY => ?_) fun σ H3 hP => ?_
  · obtain ⟨x5, x6, x7, rfl, s3⟩ := hP
    obtain ⟨rfl, hu⟩ := hY
    obtain ⟨g, eg, g1⟩ := h4.get hu
    obtain ⟨ga, vb, rfl, g2, _⟩ := g1
    have hg := W.names g (List.mem_of_getElem? eg)
    refine ⟨ga, _, rfl, (Imm.same s3).t g2, rfl, _, _, rfl, _, _, rfl, _, _, rfl, rfl, ?_⟩
    refine ⟨_, rfl, _, _, rfl, rfl, _, rfl, iteDT (by omega) ⟨_, rfl, _, _, rfl, rfl, _, rfl, iteDT (by omega) ⟨_, _, rfl, rfl, _, rfl, ?_⟩⟩⟩
    rw [decide_eq_true (show ((g.names : Nat) : Int) ≤ 4 by omega)]
    exact iteF ⟨_, _, _, rfl, s3⟩
  obtain ⟨x5, x6, x7, rfl, s3⟩ := hP
  have d1 := W.hands1
  have d3 := W.hands3
  refine ⟨_, rfl, hd, _, rfl, .inr ((Imm.same s3).t h5), _, _, rfl, rfl, _, rfl, iteDT (by rw [hl5]; omega) ⟨_, _, rfl, rfl, _, rfl, ?_⟩⟩
  rw [decide_eq_true (show ((List.map (fun n => V.int (n : Nat)) p.hands).length : Int) ≤ 3 by rw [hl5]; omega)]
  refine iteF ?_
  refine ⟨_, rfl, hd, rfl, ⟨_, (Imm.same s3).t h5⟩, ?_⟩
  refine for_it (walk_tup (xs := p.hands.map fun n => V.int (n : Nat))) (fun i σ H4 => ∃ x8, σ = [some (.ref a), some (.ref c), some (.ref f), some (.ref hd), none, x5, x6, x7, x8] ∧ Same H H4) ⟨_, rfl, s3⟩ (fun i σ H4 _ ⟨_, _, s⟩ => (Imm.same s).t h5) (fun i u σ H4 H5 hlt hP hY => ?_) fun σ H4 hP => ?_
  · obtain ⟨x8, rfl, s4⟩ := hP
    obtain ⟨rfl, hu⟩ := hY
    rw [List.getElem?_map] at hu
    obtain ⟨n, hn, rfl⟩ := Option.map_eq_some_iff.mp hu
    have hr := W.handsR n (List.mem_of_getElem? hn)
    have hr2 : p.funs[n]?.map Fn.params = some 0 := by rw [← List.getElem?_map]; exact hr
    obtain ⟨g, eg, gp⟩ := Option.map_eq_some_iff.mp hr2
    have hlt3 : n < p.funs.length := (List.getElem?_eq_some_iff.mp eg).1
    have hlt4 : n < fs.length := by omega
    obtain ⟨g', eg', g1⟩ := h4.get (List.getElem?_eq_getElem hlt4)
    have : g' = g := by rw [eg] at eg'; exact (Option.some.inj eg').symm
    subst this
    obtain ⟨ga, vb, e3, g2, _⟩ := g1
    have i4 := Imm.same s4
    refine ⟨_, rfl, _, _, rfl, rfl, _, rfl, iteDT (by omega) ⟨_, rfl, f, _, rfl, .inr (i4.t h3), _, _, rfl, rfl, _, rfl, ?_⟩⟩
    rw [decide_eq_true (show ((n : Nat) : Int) < (fs.length : Int) by omega)]
    refine iteF ⟨_, rfl, _, rfl, f, _, _, _, rfl, rfl, i4.t h3, atI_nat (List.getElem?_eq_getElem hlt4), ga, _, 0, _, e3, rfl, i4.t g2, rfl, _, _, rfl, rfl, _, rfl, ?_⟩
    rw [gp]
    exact iteF ⟨_, rfl, s4⟩
  obtain ⟨x8, rfl, s4⟩ := hP
  exact q H4 s4
/-! ### need_program -/
def sp_need_program (K : PySem.W.Frag) (w : World) : Sp := fun vs H Q _ => ∃ (p : Prog) (vp : V) (R : List (Addr × HO)), vs = [vp] ∧ ProgAt K H p vp ∧ p.Wf ∧ Holds H R ∧ ∀ H', Imm H H' → Holds H' R → Q .non H'
abbrev n_f_need_program : List Str := ["program", "cells", "funs", "hands", "looker", "params", "names", "body"]
def t_f_need_program (K : PySem.W.Frag) (w : World)  : TS :=
 (tSeq (tDrop (tCall (sp_need_head K w) [] E0 (tCons (tVar 0) tNil)))
 (tSeq (tAsg (tVar 0) (gTup K 3 (gCons (gName 1) (gCons (gName 2) (gCons (gName 3) gNil)))))
 (tSeq (tAsg (tMake (He.ga K "Looker") (sp_Looker_init K w) [] E0 (tCons (tCB (rLenS' K) (tCons (tVar 1) tNil)) (tCons (tLc (iTup K (tVar 2)) (gTup K 3 (gCons (gName 5) (gCons (gName 6) (gCons (gName 7) gNil)))) tYes (tVar 5) [5, 6, 7]) tNil))) (gName 4))
 (tFor (iTup K (tVar 2)) (gTup K 3 (gCons (gName 5) (gCons (gName 6) (gCons (gName 7) gNil)))) (tSeq (xsLooker_names K (tVar 4) (tVar 6))
 (tDrop (tMeth (He.ga K "Looker") "body" (sp_Looker_body 9 K w) [] E0 (tVar 4) (tCons (tVar 7) (tCons (tC (.int 1)) tNil)))))))))
theorem sum_take_succ {fs : List Fn} {i : Nat} {g : Fn} (h : fs[i]? = some g) : ((fs.take (i + 1)).map fun f => szDs f.body).sum = ((fs.take i).map fun f => szDs f.body).sum + szDs g.body := by
  rw [List.take_add_one, h]
  simp
theorem sum_take_le (fs : List Fn) (i : Nat) : ((fs.take i).map fun f => szDs f.body).sum ≤ (fs.map fun f => szDs f.body).sum := by
  induction fs generalizing i with
  | nil => simp
  | cons x r ih =>
    cases i with
    | zero => simp
    | succ i => have := ih i; simp only [List.take_succ_cons, List.map_cons, List.sum_cons]; omega
theorem small_sz {n : Nat} (h : n ≤ 100) : n < sizeLine := Nat.lt_of_le_of_lt h (by decide)
theorem pu_f_need_program {K : PySem.W.Frag} {w : World} (vs : List V) (H : Hp) (Q : VK) (E : XK) (h : sp_need_program K w vs H Q E) : t_f_need_program K w { nx := fun _ H' => Q .non H', rt := Q } (start n_f_need_program vs) H := by
  obtain ⟨p, vp, R, rfl, hp, W, hH, q⟩ := h
  refine ⟨_, rfl, p, vp, rfl, hp, W, fun H1 s1 => ?_⟩
  have i1 := Imm.same s1
  have hH1 := hH.same s1
  obtain ⟨a, c, f, hd, fs, rfl, h1, h2, h3, h4, h5⟩ := hp.mono i1
  have hl3 := h4.len
  have hl2 : (p.cells.map V.int).length = p.cells.length := List.length_map _
  have f4 := W.funs4
  refine ⟨_, rfl, a, _, rfl, h1, rfl, _, _, rfl, _, _, rfl, _, _, rfl, rfl, ?_⟩
  refine ⟨_, rfl, c, _, rfl, .inr h2, _, rfl, f, rfl, ⟨_, h3⟩, fun D hD => ?_⟩
  refine lc_it (walk_tup (xs := fs)) (fun i H2 => Imm H1 H2 ∧ Holds H2 ((D, .lst (((p.params.take i).map Int.ofNat).map V.int)) :: R)) ⟨.new hD, by simpa using hH1.new hD⟩ (fun i H2 _ q => q.1.t h3) (fun i x H2 H3 hlt hP hY => ?_) fun H2 hP => ?_
  · obtain ⟨rfl, hx⟩ := hY
    obtain ⟨i2, hh⟩ := hP
    obtain ⟨g, eg, ga, vb, rfl, g2, _⟩ := h4.get hx
    refine ⟨ga, _, rfl, i2.t g2, rfl, _, _, rfl, _, _, rfl, _, _, rfl, rfl, rfl, ?_⟩
    refine ⟨_, rfl, _, hh.head, ?_, ?_⟩
    · rw [List.length_map, List.length_map, List.length_take]
      exact small_sz (by omega)
    · refine ⟨i2.trans (hh.imm rfl), ?_⟩
      have e : p.params[i]? = some g.params := by unfold Prog.params; rw [List.getElem?_map, eg]; rfl
      rw [List.take_add_one, e]
      have h9 := hh.upd (o' := .lst (((p.params.take i).map Int.ofNat).map V.int ++ [.int (g.params : Nat)]))
      simpa using h9
  obtain ⟨i2, hh⟩ := hP
  intro x dx hx hdx hne
  have hpar : (List.map V.int (List.map Int.ofNat (List.take fs.length p.params))) = (p.params.map Int.ofNat).map V.int := by
    rw [List.take_of_length_le (by unfold Prog.params; rw [List.length_map]; omega)]
  rw [hpar] at hh
  have hh2 := (hh.skip (o := .own x) hdx)
  have hx2 : upd H2 dx (.own x) x = none := by rw [upd_ne hne.symm]; exact hx
  have hh3 := hh2.new (o := .ins (He.ga K "Looker") dx []) hx2
  refine ⟨x, dx, D, _, _, rfl, hh3, fun H3 i3 h3' => ⟨rfl, ?_⟩⟩
  have i03 : Imm H1 H3 := i2.trans ((Imm.new hdx).trans ((Imm.new hx2).trans i3))
  refine ⟨_, rfl, f, rfl, ⟨_, i03.t h3⟩, ?_⟩
  refine for_it (walk_tup (xs := fs)) (fun i σ H4 => ∃ x5 x6 x7 nm, σ = [some (.ref a), some (.ref c), some (.ref f), some (.ref hd), some (.ref x), x5, x6, x7] ∧ Imm H1 H4 ∧ Holds H4 (LkC K x dx p.cells.length D nm (((p.funs.take i).map fun f => szDs f.body).sum : Nat) (p.params.map Int.ofNat) R))
    ⟨_, _, _, 0, rfl, i03, by rw [hl2] at h3'; exact h3'⟩ (fun i σ H4 _ ⟨_, _, _, _, _, im, _⟩ => im.t h3) (fun i u σ H4 H5 hlt hP hY => ?_) fun σ H4 hP => ?_
  · obtain ⟨x5, x6, x7, nm, rfl, i4, h4'⟩ := hP
    obtain ⟨rfl, hu⟩ := hY
    obtain ⟨g, eg, ga, vb, rfl, g2, g3⟩ := h4.get hu
    obtain ⟨ba, bvs, rfl, b1, b2⟩ := g3.mono i4
    have hm := List.mem_of_getElem? eg
    have hw1 := W.bodies g hm
    have hw2 := W.deep g hm
    have hsz := W.size
    have hst := sum_take_succ eg
    have hle := sum_take_le p.funs (i + 1)
    refine ⟨ga, _, rfl, i4.t g2, rfl, _, _, rfl, _, _, rfl, _, _, rfl, rfl, ?_⟩
    refine ⟨_, rfl, _, rfl, x, dx, _, _, _, _, rfl, h4'.head, ?_⟩
    have h5' := h4'.upd (o' := lkO K dx p.cells.length D (g.names : Nat) (((p.funs.take i).map fun f => szDs f.body).sum : Nat))
    have i5 := h4'.imm (o' := lkO K dx p.cells.length D (g.names : Nat) (((p.funs.take i).map fun f => szDs f.body).sum : Nat)) rfl
    refine ⟨_, rfl, x, dx, _, rfl, h5'.head, nmLooker_body, _, rfl, ?_⟩
    refine ⟨x, dx, D, _, g.names, _, 1, p.params, g.body, ba, bvs, R, rfl, Nat.lt_succ_of_le hw2, h5', i5.t b1, b2.mono i5, hw1, by omega, by omega, by omega, fun H6 i6 h6 => ?_⟩
    refine ⟨_, _, _, (g.names : Int), rfl, i4.trans (i5.trans i6), ?_⟩
    rw [hst]
    have : (((p.funs.take i).map fun f => szDs f.body).sum : Int) + (szDs g.body : Int) = ((((p.funs.take i).map fun f => szDs f.body).sum + szDs g.body : Nat) : Int) := by omega
    rw [← this]
    exact h6
  · obtain ⟨x5, x6, x7, nm, rfl, i4, h4'⟩ := hP
    exact q H4 (i1.trans i4) h4'.tail.tail
/-! ### is_wish -/
def sp_is_wish (K : PySem.W.Frag) (w : World) : Sp := fun vs H Q _ => ∃ (p : Prog) (vp vw : V) (fn : Nat) (g : Fn) (y : Pt) (R : List (Addr × HO)), vs = [vw, vp, .int (fn : Nat)] ∧ ProgAt K H p vp ∧ p.funs[fn]? = some g ∧ PtAt K H y vw ∧
  y.wf g.names p.cells.length = true ∧ y.dp ≤ 8 ∧ y.sz ≤ 100 ∧ Holds H R ∧ ∀ H', Imm H H' → Holds H' R → Q (.bl true) H'
abbrev n_f_is_wish : List Str := ["part", "program", "fun", "looker"]
def t_f_is_wish (K : PySem.W.Frag) (w : World)  : TS :=
 (tSeq (tAsg (tMake (He.ga K "Looker") (sp_Looker_init K w) [] E0 (tCons (tCB (rLenS' K) (tCons (tOp (rIxT K) (tVar 1) (tC (.int 0))) tNil)) (tCons (tLst tNil) tNil))) (gName 3))
 (tSeq (xsLooker_names K (tVar 3) (tOp (rIxT K) (tOp (rIxT K) (tOp (rIxT K) (tVar 1) (tC (.int 1))) (tVar 2)) (tC (.int 1))))
 (tSeq (tDrop (tMeth (He.ga K "Looker") "part" (sp_Looker_part 8 K w) [] E0 (tVar 3) (tCons (tVar 0) (tCons (tC (.int 1)) tNil))))
 (tRet (tC (.bl true))))))
theorem pu_f_is_wish {K : PySem.W.Frag} {w : World} (vs : List V) (H : Hp) (Q : VK) (E : XK) (h : sp_is_wish K w vs H Q E) : t_f_is_wish K w { nx := fun _ H' => Q .non H', rt := Q } (start n_f_is_wish vs) H := by
  obtain ⟨p, vp, vw, fn, g, y, R, rfl, hp, eg, hy, hw, hd, hs, hH, q⟩ := h
  obtain ⟨a, c, f, hd', fs, rfl, h1, h2, h3, h4, h5⟩ := hp
  have hl2 : (p.cells.map V.int).length = p.cells.length := List.length_map _
  refine ⟨_, rfl, a, _, 0, _, rfl, rfl, h1, rfl, c, _, rfl, .inr h2, Nat.zero_le _, fun D hD => ?_⟩
  intro x dx hx hdx hne
  have hh := hH.new (o := .lst []) hD
  have hx2 : upd (upd H D (.lst [])) dx (.own x) x = none := by rw [upd_ne hne.symm]; exact hx
  have hh3 := (hh.skip (o := .own x) hdx).new (o := .ins (He.ga K "Looker") dx []) hx2
  have i0 : Imm H (upd (upd (upd H D (.lst [])) dx (.own x)) x (.ins (He.ga K "Looker") dx [])) := (Imm.new hD).trans ((Imm.new hdx).trans (Imm.new hx2))
  refine ⟨x, dx, D, _, _, rfl, hh3, fun H3 i3 h3' => ⟨rfl, ?_⟩⟩
  have i4 := i0.trans i3
  have hlt : fn < fs.length := by rw [h4.len]; exact (List.getElem?_eq_some_iff.mp eg).1
  obtain ⟨g', eg', ga, vb, e3, g2, _⟩ := h4.get (List.getElem?_eq_getElem hlt)
  have : g' = g := by rw [eg] at eg'; exact (Option.some.inj eg').symm
  subst this
  refine ⟨_, rfl, a, _, 1, _, rfl, rfl, i4.t h1, rfl, _, rfl, f, _, _, _, rfl, rfl, i4.t h3, atI_nat (List.getElem?_eq_getElem hlt), ga, _, 1, _, e3, rfl, i4.t g2, rfl, _, rfl, x, dx, _, _, _, _, rfl, h3'.head, ?_⟩
  have h5' := h3'.upd (o' := lkO K dx (p.cells.map V.int).length D (g'.names : Nat) 0)
  have i5 := h3'.imm (o' := lkO K dx (p.cells.map V.int).length D (g'.names : Nat) 0) rfl
  rw [hl2] at h5' i5
  rw [hl2]
  refine ⟨_, rfl, x, dx, _, rfl, h5'.head, nmLooker_part, _, rfl, ?_⟩
  refine ⟨x, dx, D, p.cells.length, g'.names, 0, 1, [], y, vw, R, rfl, hd, h5', hy.mono (i4.trans i5), hw, by omega, by omega, by omega, fun H6 i6 h6 => ?_⟩
  exact q H6 (i4.trans (i5.trans i6)) h6.tail.tail
end SD
set_option Elab.async false
set_option linter.all false
set_option maxRecDepth 100000
set_option maxHeartbeats 4000000
namespace SD
open PySem PySem.Spec PyProof.Rows L2
/-! ### numbering, plainly -/
theorem numD_snd_aux : (∀ d n, (numD d n).2 = n + d.cnt) ∧ ∀ b n, (numDs b n).2 = n + cntDs b := by
  have key : ∀ k, (∀ d n, d.sz ≤ k → (numD d n).2 = n + d.cnt) ∧ ∀ b n, szDs b ≤ k → (numDs b n).2 = n + cntDs b := by
    intro k
    induction k with
    | zero =>
      refine ⟨fun d n h => absurd h (by have := szDd_pos d; omega), fun b n h => ?_⟩
      cases b with
      | nil => simp [numDs, cntDs]
      | cons d r => have := szDd_pos d; simp [szDs] at h; omega
    | succ k ih =>
      have hD : ∀ d n, d.sz ≤ k + 1 → (numD d n).2 = n + d.cnt := by
        intro d n h
        cases d with
        | iff x a b =>
          simp only [Dd.sz] at h
          have h1 := ih.2 a (n + 1) (by have := szPt_pos x; omega)
          have h2 := ih.2 b (numDs a (n + 1)).2 (by have := szPt_pos x; omega)
          simp only [numD, Dd.cnt]; omega
        | again x b =>
          simp only [Dd.sz] at h
          have h1 := ih.2 b (n + 1) (by have := szPt_pos x; omega)
          simp only [numD, Dd.cnt]; omega
        | _ => simp [numD, Dd.cnt]
      refine ⟨hD, fun b => ?_⟩
      induction b with
      | nil => intro n h; simp [numDs, cntDs]
      | cons d r ihr =>
        intro n h
        simp only [szDs] at h
        have h1 := hD d n (by omega)
        have h2 := ihr (numD d n).2 (by omega)
        simp only [numDs, cntDs]; omega
  exact ⟨fun d n => (key d.sz).1 d n (Nat.le_refl _), fun b n => (key (szDs b)).2 b n (Nat.le_refl _)⟩
theorem numD_snd (d : Dd) (n : Nat) : (numD d n).2 = n + d.cnt := numD_snd_aux.1 d n
theorem numDs_snd (b : List Dd) (n : Nat) : (numDs b n).2 = n + cntDs b := numD_snd_aux.2 b n
theorem numDs_app : ∀ (xs : List Dd) (d : Dd) (n : Nat), numDs (xs ++ [d]) n = ((numDs xs n).1 ++ [(numD d (numDs xs n).2).1], (numD d (numDs xs n).2).2)
  | [], d, n => by simp [numDs]
  | x :: r, d, n => by simp [numDs, numDs_app r d]
def numBs : List (List Dd) → Nat → List (List ND) × Nat
  | [], n => ([], n)
  | b :: r, n => let q := numDs b n; let s := numBs r q.2; (q.1 :: s.1, s.2)
theorem numBs_app : ∀ (xs : List (List Dd)) (b : List Dd) (n : Nat), numBs (xs ++ [b]) n = ((numBs xs n).1 ++ [(numDs b (numBs xs n).2).1], (numDs b (numBs xs n).2).2)
  | [], d, n => by simp [numBs]
  | x :: r, d, n => by simp [numBs, numBs_app r d]
def bodiesOf : List Itm → List (List Dd)
  | [] => []
  | .bd l :: r => l :: bodiesOf r
  | _ :: r => bodiesOf r
theorem bodiesOf_app : ∀ (xs ys : List Itm), bodiesOf (xs ++ ys) = bodiesOf xs ++ bodiesOf ys
  | [], ys => rfl
  | .bd l :: r, ys => by simp [bodiesOf, bodiesOf_app r ys]
  | .v c :: r, ys => by simp [bodiesOf, bodiesOf_app r ys]
  | .x c :: r, ys => by simp [bodiesOf, bodiesOf_app r ys]
  | .ps c :: r, ys => by simp [bodiesOf, bodiesOf_app r ys]
theorem numD_eq (d : Dd) (n : Nat) : numD d n = (.mk n d (numBs (bodiesOf d.items) (n + 1)).1, (numBs (bodiesOf d.items) (n + 1)).2) := by
  cases d <;> simp [numD, bodiesOf, Dd.items, numBs]
def cntBs : List (List Dd) → Nat
  | [] => 0
  | b :: r => cntDs b + cntBs r
theorem numBs_snd : ∀ (xs : List (List Dd)) (n : Nat), (numBs xs n).2 = n + cntBs xs
  | [], n => rfl
  | b :: r, n => by simp only [numBs, cntBs, numBs_snd r, numDs_snd]; omega
theorem cnt_eq (d : Dd) : d.cnt = 1 + cntBs (bodiesOf d.items) := by
  have h1 := numD_snd d 0
  have h2 := congrArg Prod.snd (numD_eq d 0)
  simp only [numBs_snd] at h2
  omega
theorem cntBs_app : ∀ (xs ys : List (List Dd)), cntBs (xs ++ ys) = cntBs xs + cntBs ys
  | [], ys => by simp [cntBs]
  | b :: r, ys => by simp only [List.cons_append, cntBs, cntBs_app r ys]; omega
theorem cntDs_app : ∀ (xs ys : List Dd), cntDs (xs ++ ys) = cntDs xs + cntDs ys
  | [], ys => by simp [cntDs]
  | b :: r, ys => by simp only [List.cons_append, cntDs, cntDs_app r ys]; omega
theorem cnt_le_aux : (∀ d : Dd, d.cnt ≤ d.sz) ∧ ∀ b, cntDs b ≤ szDs b := by
  have key : ∀ k, (∀ d : Dd, d.sz ≤ k → d.cnt ≤ d.sz) ∧ ∀ b, szDs b ≤ k → cntDs b ≤ szDs b := by
    intro k
    induction k with
    | zero =>
      refine ⟨fun d h => absurd h (by have := szDd_pos d; omega), fun b h => ?_⟩
      cases b with
      | nil => simp [cntDs]
      | cons d r => have := szDd_pos d; simp [szDs] at h; omega
    | succ k ih =>
      have hD : ∀ d : Dd, d.sz ≤ k + 1 → d.cnt ≤ d.sz := by
        intro d h
        cases d with
        | iff x a b =>
          simp only [Dd.sz] at h
          have h1 := ih.2 a (by have := szPt_pos x; omega)
          have h2 := ih.2 b (by have := szPt_pos x; omega)
          simp only [Dd.cnt, Dd.sz]; omega
        | again x b =>
          simp only [Dd.sz] at h
          have h1 := ih.2 b (by have := szPt_pos x; omega)
          simp only [Dd.cnt, Dd.sz]; omega
        | _ => simp [Dd.cnt, Dd.sz]
      refine ⟨hD, fun b => ?_⟩
      induction b with
      | nil => intro h; simp [cntDs]
      | cons d r ihr =>
        intro h
        simp only [szDs] at h
        have h1 := hD d (by omega)
        have h2 := ihr (by omega)
        simp only [cntDs, szDs]; omega
  exact ⟨fun d => (key d.sz).1 d (Nat.le_refl _), fun b => (key (szDs b)).2 b (Nat.le_refl _)⟩
/-! ### a comprehension over zip(text, a new tail of a tuple) -/
theorem cutT (x : V) (its : List V) : cutV (x :: its) (some 1) none = its := by rw [cut1]; rfl
theorem lc_zipTail {K : PySem.W.Frag} {tt : TT} {te : TE} {vs : List Nat} {σ : L2.St} {H : Hp} {Qd : Hp → Prop} {sh : Str} {p D : Addr} {its : List V} {i6 i7 : Nat} (hsz : sh.cps.size = its.length) (hp : SqT K H p its) (hD : H D = none)
    (Pv : Nat → Hp → Prop) (h0 : Pv 0 (upd H D (.lst [])))
    (hs : ∀ (i c : Nat) (u : V) (H1 H2 : Hp) (G : Hp → Prop), sh.cps[i]? = some c → its[i]? = some u → Pv i H1 → Same H1 H2 → (∀ H3, Imm H2 H3 → G H3) →
      wipe (((wipe σ vs).set i6 (some (.str ⟨#[c]⟩))).set i7 (some u)) vs = wipe σ vs ∧ tt (((wipe σ vs).set i6 (some (.str ⟨#[c]⟩))).set i7 (some u)) H2 fun b H3 =>
        if b = true then te (((wipe σ vs).set i6 (some (.str ⟨#[c]⟩))).set i7 (some u)) H3 fun y H4 => ∃ acc, H4 D = some (.lst acc) ∧ acc.length < sizeLine ∧ (Pv (i + 1) (upd H4 D (.lst (acc ++ [y]))) ∧ G (upd H4 D (.lst (acc ++ [y])))) else Pv (i + 1) H3 ∧ G H3)
    (hd : ∀ H1, Pv its.length H1 → Qd H1) :
    ∃ W : Nat → Nat → Hp → Prop, (∃ m, W 0 m (upd H D (.lst []))) ∧ ∀ i m H, W i m H →
      ((ItzST K sh p).stop i H ∧ Qd H) ∨ ((ItzST K sh p).go i H ∧ ∃ Nx : Hp → Prop, (∀ H', Nx H' → ∃ m', m' < m ∧ W (i + 1) m' H') ∧ ∀ x H', (ItzST K sh p).yld i H x H' → gTup K 2 (gCons (gName i6) (gCons (gName i7) gNil)) x (wipe σ vs) H' fun σ2 H2 => wipe σ2 vs = wipe σ vs ∧ tt σ2 H2 fun b H3 =>
        if b = true then te σ2 H3 fun y H4 => ∃ acc, H4 D = some (.lst acc) ∧ acc.length < sizeLine ∧ Nx (upd H4 D (.lst (acc ++ [y]))) else Nx H3) := by
  have hm : min sh.cps.size its.length = its.length := by rw [hsz]; exact Nat.min_self _
  have W := walk_zipST (K := K) (x := sh) (b := p) (ys := its)
  rw [hm] at W
  have iD := Imm.new (o := .lst []) hD
  refine lc_it W (fun i H1 => Pv i H1 ∧ SqT K H1 p its) ⟨h0, iD.t hp⟩ (fun i H1 _ q => q.2) (fun i u H1 H2 hlt q y => ?_) fun H1 q => hd H1 q.1
  obtain ⟨T, c, u, rfl, hT, rfl, hc, hu⟩ := y
  have iT := Imm.new (o := .tup [.str ⟨#[c]⟩, u]) hT
  refine ⟨T, _, rfl, .inl (.inl upd_same), rfl, _, _, rfl, _, _, rfl, rfl, ?_⟩
  exact hs i c u H1 _ (fun H3 => SqT K H3 p its) hc hu q.1 (same_new hT _) fun H3 im => im.t (iT.t q.2)
/-! ### Numberer -/
abbrev nbO (K : PySem.W.Frag) (dx : Addr) (cnt : Nat) (fl : Addr) : HO := .ins (He.ga K "Numberer") dx (flNumberer (.int (cnt : Nat)) (.ref fl))
abbrev NbC (K : PySem.W.Frag) (o dx : Addr) (cnt : Nat) (fl : Addr) (fs : List Nat) (R : List (Addr × HO)) : List (Addr × HO) := (o, nbO K dx cnt fl) :: (fl, .lst (fs.map fun n => V.int (n : Nat))) :: R
def sp_Numberer_init (K : PySem.W.Frag) (w : World) : Sp := fun vs H Q _ => ∃ (x dx : Addr) (R : List (Addr × HO)), vs = [.ref x] ∧ Holds H ((x, .ins (He.ga K "Numberer") dx []) :: R) ∧
  ∀ H' fl, Imm H H' → Holds H' (NbC K x dx 0 fl [] R) → Q .non H'
abbrev n_m_Numberer_init : List Str := ["self"]
def t_m_Numberer_init (K : PySem.W.Frag) (w : World)  : TS :=
 (tSeq (sFld K (tVar 0) (tC (.int 0)) "count")
 (sFld K (tVar 0) (tLst tNil) "funs"))
theorem pu_m_Numberer_init {K : PySem.W.Frag} {w : World} (F : Fcts K) (vs : List V) (H : Hp) (Q : VK) (E : XK) (h : sp_Numberer_init K w vs H Q E) : t_m_Numberer_init K w { nx := fun _ H' => Q .non H', rt := Q } (start n_m_Numberer_init vs) H := by
  obtain ⟨x, dx, R, rfl, hH, q⟩ := h
  refine ⟨_, rfl, x, _, dx, _, rfl, hH.head, F.clNumberer, F.naNumberer_count, (by show 0 < 1000; decide), ?_⟩
  have h1 := hH.upd (o' := .ins (He.ga K "Numberer") dx (putF "count" (.int 0) []))
  refine ⟨Nat.zero_le _, fun p hp => ?_⟩
  have h2 := h1.new (o := .lst []) hp
  refine ⟨_, rfl, x, _, dx, _, rfl, h2.tail.head, F.clNumberer, F.naNumberer_funs, (by show 1 < 1000; decide), ?_⟩
  have h3 := h2.set 1 (o' := .ins (He.ga K "Numberer") dx (putF "funs" (.ref p) (putF "count" (.int 0) []))) rfl
  refine q _ p ((hH.imm rfl).trans ((Imm.new hp).trans (.upd h2.tail.head rfl))) ?_
  have h4 := h3.pull 1 rfl
  rw [inNumberer] at h4 ⊢
  exact h4
def sp_Numberer_body (n : Nat) (K : PySem.W.Frag) (w : World) : Sp := fun vs H Q _ => ∃ (o dx fl a : Addr) (cnt fn names cells : Nat) (params : List Nat) (fs : List Nat) (b : List Dd) (bs : List V) (R : List (Addr × HO)), vs = [.ref o, .ref a, .int (fn : Nat)] ∧ dpDs b < n ∧
  Holds H (NbC K o dx cnt fl fs R) ∧ SqT K H a bs ∧ DdsAt K H b bs ∧ wfDs names cells params b = true ∧ fs.length + cntDs b ≤ 1000 ∧
  ∀ H' r xs, Imm H H' → Holds H' (NbC K o dx (cnt + cntDs b) fl (fs ++ List.replicate (cntDs b) fn) R) → SqF K H' r xs → NDsAt K H' (numDs b cnt).1 xs → Q (.ref r) H'
abbrev n_m_Numberer_body : List Str := ["self", "body", "fun", "found", "deed", "place", "inner", "kind", "part"]
def t_m_Numberer_body (K : PySem.W.Frag) (w : World) (n : Nat) : TS :=
 (tSeq (tAsg (tLst tNil) (gName 3))
 (tSeq (tFor (iTup K (tVar 1)) (gName 4) (tSeq (tAsg (xfNumberer_count K (tVar 0)) (gName 5))
 (tSeq (xsNumberer_count K (tVar 0) (tOp (rI0 fun i j => .int (i + j)) (tVar 5) (tC (.int 1))))
 (tSeq (tDrop (tBM K "list" rAppend (xfNumberer_funs K (tVar 0)) (tCons (tVar 2) tNil)))
 (tSeq (tFrzS (tAsg (tLc (iZipST K (tCons (tOp (rKItem K w) (tC (.ref (He.ga K "DEEDS"))) (tOp (rIxT K) (tVar 4) (tC (.int 0)))) (tCons (tSl (rSlT K) (tVar 4) (tPart (tC (.int 1))) tNoPart) tNil))) (gTup K 2 (gCons (gName 7) (gCons (gName 8) gNil))) (tTest (tOp rEq (tVar 7) (tC (.str "b")))) (tMeth (He.ga K "Numberer") "body" (sp_Numberer_body n K w) [] E0 (tVar 0) (tCons (tVar 8) (tCons (tVar 2) tNil))) [7, 8]) (gName 6)))
 (tDrop (tBM K "list" rAppend (tVar 3) (tCons (tTup (tCons (tVar 5) (tCons (tVar 4) (tCons (tVar 6) tNil)))) tNil))))))))
 (tRet (tFrzE (tVar 3)))))
theorem rep_succ {n c : Nat} : List.replicate n c ++ [c] = List.replicate (n + 1) c := by rw [List.replicate_succ']
theorem tyL {K : PySem.W.Frag} {H : Hp} {a : Addr} {xs : List V} (h : H a = some (.lst xs)) : tyV K "list" (.ref a) H := Or.inl ⟨rfl, _, Or.inl (Or.inl h)⟩
theorem pu_m_Numberer_body {K : PySem.W.Frag} {w : World} (B : Tb K w) (n : Nat) (vs : List V) (H : Hp) (Q : VK) (E : XK) (h : sp_Numberer_body (n + 1) K w vs H Q E) : t_m_Numberer_body K w n { nx := fun _ H' => Q .non H', rt := Q } (start n_m_Numberer_body vs) H := by
  obtain ⟨o, dx, fl, a, cnt, fn, names, cells, params, fs, b, bs, R, rfl, hn, hH, ht, hb, hw, hc, q⟩ := h
  have hlen := hb.len
  refine ⟨Nat.zero_le _, fun ro hro => ?_⟩
  have hH0 := hH.new (o := .lst []) hro
  have i0 := Imm.new (o := .lst []) hro
  refine ⟨_, rfl, a, rfl, ⟨_, i0.t ht⟩, ?_⟩
  refine for_it (walk_tup (xs := bs)) (fun i σ H1 => ∃ x4 x5 x6 ws, σ = [some (.ref o), some (.ref a), some (.int (fn : Nat)), some (.ref ro), x4, x5, x6, none, none] ∧ Imm H H1 ∧
      Holds H1 ((ro, .lst ws) :: NbC K o dx (cnt + cntDs (b.take i)) fl (fs ++ List.replicate (cntDs (b.take i)) fn) R) ∧ NDsAt K H1 (numDs (b.take i) cnt).1 ws)
    ⟨_, _, _, _, rfl, i0, by simpa [cntDs] using hH0, by simp [numDs, NDsAt]⟩ (fun i σ H1 _ ⟨_, _, _, _, _, im, _⟩ => im.t ht) (fun i u σ H0 H1 hlt hP hY => ?_) fun σ H1 hP => ?_
  · obtain ⟨x4, x5, x6, ws, rfl, i1, h1, hws⟩ := hP
    obtain ⟨rfl, hu⟩ := hY
    obtain ⟨d, ed, hdd⟩ := hb.get hu
    have hdw := wfDs_get hw ed
    have hddp := dpDs_get ed
    have hsplit : b.take (i + 1) = b.take i ++ [d] := by rw [List.take_add_one, ed]; rfl
    have hcl : cntDs (b.take (i + 1)) = cntDs (b.take i) + d.cnt := by rw [hsplit, cntDs_app]; simp [cntDs]
    have hcle : cntDs (b.take (i + 1)) ≤ cntDs b := by
      have := cntDs_app (b.take (i + 1)) (b.drop (i + 1))
      rw [List.take_append_drop] at this; omega
    have hce := cnt_eq d
    obtain ⟨ta, wd, its, sh, rfl, T⟩ := thD (hdd.mono i1) hdw
    have hsh : tabD wd = some (.str sh) := by
      rcases T.shp with ⟨_, e⟩ | ⟨e, _⟩ | ⟨e, _⟩
      · exact e
      · cases e
      · cases e
    have hwl : ws.length = i := by
      have := hws.len
      rw [this]
      have : ∀ (x : List Dd) (m : Nat), (numDs x m).1.length = x.length := by
        intro x
        induction x with
        | nil => intro m; simp [numDs]
        | cons y r ih => intro m; simp [numDs, ih]
      rw [this, List.length_take]; omega
    generalize hcur : cnt + cntDs (b.take i) = cur at h1
    generalize hfs : fs ++ List.replicate (cntDs (b.take i)) fn = fs1 at h1
    have hfl1 : fs1.length = fs.length + cntDs (b.take i) := by rw [← hfs, List.length_append, List.length_replicate]
    refine ⟨_, rfl, o, dx, _, _, rfl, h1.tail.head, ?_⟩
    refine ⟨_, rfl, _, _, rfl, rfl, _, rfl, o, dx, _, _, rfl, h1.tail.head, ?_⟩
    have h2 := h1.set 1 (o' := nbO K dx (cur + 1) fl) rfl
    have i2 : Imm H1 (upd H1 o (nbO K dx (cur + 1) fl)) := .upd h1.tail.head rfl
    have e2 : (upd H1 o (.ins (He.ga K "Numberer") dx (flNumberer (.int ((cur : Int) + 1)) (.ref fl)))) = upd H1 o (nbO K dx (cur + 1) fl) := by rfl
    rw [e2]
    generalize upd H1 o (nbO K dx (cur + 1) fl) = H2 at h2 i2
    have h2' : Holds H2 ((ro, .lst ws) :: NbC K o dx (cur + 1) fl fs1 R) := h2
    refine ⟨_, rfl, o, dx, _, _, rfl, h2'.tail.head, tyL h2'.tail.tail.head, _, rfl, fl, _, _, rfl, rfl, h2'.tail.tail.head, ?_, ?_⟩
    · rw [List.length_map]; exact small1000 (by omega)
    have e3 : (fs1.map fun n => V.int (n : Nat)) ++ [.int (fn : Nat)] = (fs1 ++ [fn]).map fun n => V.int (n : Nat) := by rw [List.map_append]; rfl
    rw [e3]
    have h3 : Holds _ ((ro, .lst ws) :: NbC K o dx (cur + 1) fl (fs1 ++ [fn]) R) := h2'.set 2 (o' := .lst ((fs1 ++ [fn]).map fun n => V.int (n : Nat))) rfl
    have i3 : Imm H2 (upd H2 fl (.lst ((fs1 ++ [fn]).map fun n => V.int (n : Nat)))) := .upd h2'.tail.tail.head rfl
    generalize upd H2 fl (.lst ((fs1 ++ [fn]).map fun n => V.int (n : Nat))) = H3 at h3 i3
    have T3 := T.mono (i2.trans i3)
    refine ⟨_, rfl, ta, _, 0, _, rfl, rfl, T3.tup, atI0, _, _, _, _, rfl, rfl, B.deeds, hsh, ?_⟩
    refine ⟨_, rfl, 1, rfl, ta, _, rfl, T3.tup, notWhole1 _ _, fun p hp => ?_⟩
    rw [cutT]
    refine ⟨sh, p, its, rfl, .inl (.inl upd_same), fun D hD => ?_⟩
    have ip := Imm.new (o := .tup its) hp
    have hp3 := h3.skip (o := .tup its) hp
    refine lc_zipTail (its := its) T3.size (.inl (.inl upd_same)) hD
      (fun k H4 => ∃ rs, Imm H3 H4 ∧ Holds H4 ((D, .lst rs) :: (ro, .lst ws) :: NbC K o dx (cur + 1 + cntBs (bodiesOf (d.items.take k))) fl (fs1 ++ [fn] ++ List.replicate (cntBs (bodiesOf (d.items.take k))) fn) R) ∧ NBsAt K H4 (numBs (bodiesOf (d.items.take k)) (cur + 1)).1 rs ∧ rs.length ≤ k)
      ⟨[], ip.trans (.new hD), by simpa [bodiesOf, cntBs] using hp3.new hD, by simp [bodiesOf, numBs, NBsAt], Nat.le_refl _⟩ (fun k c u H4 H5 G hcc hu2 hP s5 hG => ?_) fun H4 hP => ?_
    · obtain ⟨rs, i4, h4, hrs, hrl⟩ := hP
      have i5 := i4.trans (Imm.same s5)
      have h5 := h4.same s5
      obtain ⟨it, e1, e2, a1, a2⟩ := (T3.mono i5).item hcc hu2
      have htk : d.items.take (k + 1) = d.items.take k ++ [it] := by rw [List.take_add_one, e1]; rfl
      have hm := List.mem_of_getElem? e1
      have hdy := dpD_items d _ hm
      have hwy := wfD_items names cells params d hdw _ hm
      have hk4 : k < 4 := by
        have h1 := (List.getElem?_eq_some_iff.mp e1).1
        have h2 := T.few; omega
      have hcb : cntBs (bodiesOf (d.items.take (k + 1))) ≤ cntBs (bodiesOf d.items) := by
        have := cntBs_app (bodiesOf (d.items.take (k + 1))) (bodiesOf (d.items.drop (k + 1)))
        rw [← bodiesOf_app, List.take_append_drop] at this; omega
      refine ⟨rfl, ?_⟩
      refine ⟨_, rfl, rfl, _, rfl, ?_⟩
      cases it with
      | bd y =>
        have hc98 : c = 98 := e2.symm
        subst hc98
        obtain ⟨ba, bvs, rfl, g1, g2⟩ := a2
        have hdy3 : dpDs y + 1 ≤ d.dp := hdy
        have hbo : bodiesOf (d.items.take (k + 1)) = bodiesOf (d.items.take k) ++ [y] := by rw [htk, bodiesOf_app]; rfl
        rw [hbo, cntBs_app] at hcb
        simp only [cntBs] at hcb
        refine iteDT (by rw [strB]) ?_
        refine ⟨_, rfl, o, dx, _, rfl, h5.tail.tail.head, nmNumberer_body, _, rfl, _, rfl, ?_⟩
        refine ⟨o, dx, fl, ba, cur + 1 + cntBs (bodiesOf (d.items.take k)), fn, names, cells, params, fs1 ++ [fn] ++ List.replicate (cntBs (bodiesOf (d.items.take k))) fn, y, bvs, (D, .lst rs) :: (ro, .lst ws) :: R, rfl, by omega, ?_, g1, g2, hwy, ?_, fun H6 r xs i6 h6 f6 n6 => ?_⟩
        · have := h5.pull 2 rfl
          have := this.pull 3 rfl
          exact this.pull 1 rfl
        · rw [List.length_append, List.length_append, List.length_replicate, hfl1]
          simp only [List.length_singleton]; omega
        · have h7 : Holds H6 ((D, .lst rs) :: (ro, .lst ws) :: NbC K o dx (cur + 1 + cntBs (bodiesOf (d.items.take k)) + cntDs y) fl (fs1 ++ [fn] ++ List.replicate (cntBs (bodiesOf (d.items.take k))) fn ++ List.replicate (cntDs y) fn) R) := by
            have := h6.pull 2 rfl
            have := this.pull 3 rfl
            have := this.pull 1 rfl
            exact this
          refine ⟨rs, h7.head, Nat.lt_of_le_of_lt hrl (Nat.lt_of_lt_of_le hk4 (by decide)), ⟨rs ++ [.ref r], ?_, ?_, ?_, ?_⟩, ?_⟩
          · exact i5.trans (i6.trans (h7.imm rfl))
          · rw [hbo, cntBs_app]
            simp only [cntBs, Nat.add_zero]
            have h8 := h7.upd (o' := .lst (rs ++ [.ref r]))
            rw [← Nat.add_assoc, ← List.replicate_append_replicate, ← List.append_assoc]
            exact h8
          · rw [hbo, numBs_app, numBs_snd]
            exact NBsAt.app (hrs.mono ((Imm.same s5).trans (i6.trans (h7.imm rfl)))) ⟨r, xs, [], rfl, (h7.imm rfl).f f6, n6.mono (h7.imm rfl), rfl⟩
          · rw [List.length_append]; simp only [List.length_singleton]; omega
          · exact hG _ (i6.trans (h7.imm rfl))
      | v cc =>
        have hbo : bodiesOf (d.items.take (k + 1)) = bodiesOf (d.items.take k) := by rw [htk, bodiesOf_app]; exact List.append_nil _
        have hne : c ≠ 98 := by rw [← e2]; exact a2.2.1
        refine iteDF (by rw [strB]; exact hne) ?_
        rw [hbo]
        exact ⟨⟨rs, i5, h5, hrs.mono (Imm.same s5), Nat.le_succ_of_le hrl⟩, hG _ (Imm.refl _)⟩
      | x y =>
        have hbo : bodiesOf (d.items.take (k + 1)) = bodiesOf (d.items.take k) := by rw [htk, bodiesOf_app]; exact List.append_nil _
        have hne : c ≠ 98 := by rw [← e2]; show (120 : Nat) ≠ 98; decide
        refine iteDF (by rw [strB]; exact hne) ?_
        rw [hbo]
        exact ⟨⟨rs, i5, h5, hrs.mono (Imm.same s5), Nat.le_succ_of_le hrl⟩, hG _ (Imm.refl _)⟩
      | ps y =>
        have hbo : bodiesOf (d.items.take (k + 1)) = bodiesOf (d.items.take k) := by rw [htk, bodiesOf_app]; exact List.append_nil _
        have hne : c ≠ 98 := by rw [← e2]; show (112 : Nat) ≠ 98; decide
        refine iteDF (by rw [strB]; exact hne) ?_
        rw [hbo]
        exact ⟨⟨rs, i5, h5, hrs.mono (Imm.same s5), Nat.le_succ_of_le hrl⟩, hG _ (Imm.refl _)⟩
    · obtain ⟨rs, i4, h4, hrs, hrl⟩ := hP
      rw [← T.len, List.take_length] at h4 hrs
      refine ⟨fun z => z = D, fun H5 fz => ?_⟩
      have i5 := Imm.frzd fz
      have hD5 := sqf_of (K := K) fz (a := D) rfl h4.head
      have h5 : Holds H5 _ := h4.tail.frzd fz fun p hp z => h4.ne hp z.symm
      have i05 := i2.trans (i3.trans (i4.trans i5))
      refine ⟨_, rfl, tyL h5.head, _, rfl, _, rfl, _, rfl, (by show 3 ≤ sizeLine; decide), fun t ht' => ?_⟩
      have i6 := Imm.new (o := .tup [.int (cur : Nat), .ref ta, .ref D]) ht'
      have h6 := h5.skip (o := .tup [.int (cur : Nat), .ref ta, .ref D]) ht'
      refine ⟨ro, _, _, rfl, rfl, h6.head, ?_, ?_⟩
      · rw [hwl]
        have h1 : i < b.length := (List.getElem?_eq_some_iff.mp ed).1
        have : ∀ x : List Dd, x.length ≤ cntDs x := by
          intro x
          induction x with
          | nil => simp [cntDs]
          | cons y r ih => have := cnt_eq y; simp only [cntDs, List.length_cons]; omega
        have := this b
        exact small1000 (by omega)
      have h7 := h6.upd (o' := .lst (ws ++ [.ref t]))
      have i7 := h6.imm (o' := .lst (ws ++ [.ref t])) rfl
      refine ⟨_, _, _, ws ++ [.ref t], rfl, i1.trans (i05.trans (i6.trans i7)), ?_, ?_⟩
      · rw [hcl, hce, ← Nat.add_assoc, ← Nat.add_assoc, hcur, ← List.replicate_append_replicate, ← List.replicate_append_replicate, ← List.append_assoc, ← List.append_assoc, hfs]
        exact h7
      · rw [hsplit, numDs_app, numDs_snd, hcur, numD_eq]
        refine NDsAt.app (hws.mono (i05.trans (i6.trans i7))) ⟨_, [], rfl, ?_, rfl⟩
        exact ⟨t, .ref ta, D, rs, rfl, i7.t (.inl (.inl upd_same)), hdd.mono (i1.trans (i05.trans (i6.trans i7))), (i6.trans i7).f hD5, hrs.mono (i5.trans (i6.trans i7))⟩
  · obtain ⟨x4, x5, x6, ws, rfl, i1, h1, hws⟩ := hP
    rw [hlen, List.take_length] at h1 hws
    refine ⟨_, rfl, fun z => z = ro, fun H2 fz => ?_⟩
    have i2 := Imm.frzd fz
    exact q H2 ro ws (i1.trans i2) (h1.tail.frzd fz fun p hp z => h1.ne hp z.symm) (sqf_of fz rfl h1.head) (hws.mono i2)
end SD
set_option Elab.async false
set_option linter.all false
set_option maxRecDepth 100000
set_option maxHeartbeats 4000000
namespace SD
open PySem PySem.Spec PyProof.Rows L2
/-! ### numbered -/
theorem numFs_snd : ∀ (xs : List Fn) (n : Nat), (numFs xs n).2 = n + (xs.map fun f => cntDs f.body).sum
  | [], n => rfl
  | f :: r, n => by simp only [numFs, numFs_snd r, numDs_snd, List.map_cons, List.sum_cons]; omega
theorem numFs_app : ∀ (xs : List Fn) (f : Fn) (n : Nat), numFs (xs ++ [f]) n = ((numFs xs n).1 ++ [(numDs f.body (numFs xs n).2).1], (numDs f.body (numFs xs n).2).2)
  | [], f, n => by simp [numFs]
  | x :: r, f, n => by simp [numFs, numFs_app r f]
theorem plFuns_app : ∀ (xs : List Fn) (f : Fn) (i : Nat), plFuns (xs ++ [f]) i = plFuns xs i ++ List.replicate (cntDs f.body) (i + xs.length)
  | [], f, i => by simp [plFuns]
  | x :: r, f, i => by
    simp only [List.cons_append, plFuns, plFuns_app r f, List.length_cons, List.append_assoc]
    rw [show i + 1 + r.length = i + (r.length + 1) by omega]
theorem plFuns_len : ∀ (xs : List Fn) (i : Nat), (plFuns xs i).length = (xs.map fun f => cntDs f.body).sum
  | [], i => rfl
  | x :: r, i => by simp [plFuns, plFuns_len r]
theorem cntSum_le (xs : List Fn) : (xs.map fun f => cntDs f.body).sum ≤ (xs.map fun f => szDs f.body).sum := by
  induction xs with
  | nil => simp
  | cons x r ih => have := cnt_le_aux.2 x.body; simp only [List.map_cons, List.sum_cons]; omega
theorem cntSum_take (fs : List Fn) (i : Nat) : ((fs.take i).map fun f => cntDs f.body).sum ≤ (fs.map fun f => cntDs f.body).sum := by
  induction fs generalizing i with
  | nil => simp
  | cons x r ih =>
    cases i with
    | zero => simp
    | succ i => have := ih i; simp only [List.take_succ_cons, List.map_cons, List.sum_cons]; omega
def sp_numbered (K : PySem.W.Frag) (w : World) : Sp := fun vs H Q _ => ∃ (p : Prog) (vp : V) (R : List (Addr × HO)), vs = [vp] ∧ ProgAt K H p vp ∧ p.Wf ∧ Holds H R ∧
  ∀ H' r b f bs, Imm H H' → Holds H' R → SqT K H' r [.ref b, .ref f] → SqF K H' b bs → NBsAt K H' p.nbodies bs → SqF K H' f (p.pfuns.map fun n => V.int (n : Nat)) → Q (.ref r) H'
abbrev n_f_numbered : List Str := ["program", "numberer", "bodies", "number", "fun"]
def t_f_numbered (K : PySem.W.Frag) (w : World)  : TS :=
 (tSeq (tAsg (tMake (He.ga K "Numberer") (sp_Numberer_init K w) [] E0 tNil) (gName 1))
 (tSeq (tFrzS (tAsg (tLc (iEnumT K (tCons (tOp (rIxT K) (tVar 0) (tC (.int 1))) tNil)) (gTup K 2 (gCons (gName 3) (gCons (gName 4) gNil))) tYes (tMeth (He.ga K "Numberer") "body" (sp_Numberer_body 9 K w) [] E0 (tVar 1) (tCons (tOp (rIxT K) (tVar 4) (tC (.int 2))) (tCons (tVar 3) tNil))) [3, 4]) (gName 2)))
 (tRet (tFrzE (tTup (tCons (tVar 2) (tCons (xfNumberer_funs K (tVar 1)) tNil)))))))
theorem pu_f_numbered {K : PySem.W.Frag} {w : World} (vs : List V) (H : Hp) (Q : VK) (E : XK) (h : sp_numbered K w vs H Q E) : t_f_numbered K w { nx := fun _ H' => Q .non H', rt := Q } (start n_f_numbered vs) H := by
  obtain ⟨p, vp, R, rfl, ⟨a, c, f, hd, fs, rfl, h1, h2, h3, h4, h5⟩, W, hH, q⟩ := h
  have hl3 := h4.len
  have f4 := W.funs4
  intro x dx hx hdx hne
  have hx2 : upd H dx (.own x) x = none := by rw [upd_ne hne.symm]; exact hx
  have hh3 := (hH.skip (o := .own x) hdx).new (o := .ins (He.ga K "Numberer") dx []) hx2
  refine ⟨x, dx, _, rfl, hh3, fun H1 fl i1 hh1 => ⟨rfl, ?_⟩⟩
  have i01 := (Imm.new hdx).trans ((Imm.new hx2).trans i1)
  refine ⟨_, rfl, a, _, 1, _, rfl, rfl, i01.t h1, rfl, f, _, rfl, i01.t h3, fun D hD => ?_⟩
  have hsz := W.size
  have hcs := cntSum_le p.funs
  refine lc_it (walk_enumT (ys := fs)) (fun i H2 => ∃ rs, Imm H1 H2 ∧ Holds H2 ((D, .lst rs) :: NbC K x dx ((p.funs.take i).map fun f => cntDs f.body).sum fl (plFuns (p.funs.take i) 0) R) ∧ NBsAt K H2 (numFs (p.funs.take i) 0).1 rs ∧ rs.length ≤ i)
    ⟨[], .new hD, by simpa [plFuns] using hh1.new hD, by simp [numFs, NBsAt], Nat.le_refl _⟩ (fun i H2 _ ⟨_, im, _⟩ => im.t (i01.t h3)) (fun i u H2 H3 hlt hP hY => ?_) fun H2 hP => ?_
  · obtain ⟨rs, i2, hh2, hrs, hrl⟩ := hP
    obtain ⟨T, y, rfl, hT, rfl, hy⟩ := hY
    obtain ⟨g, eg, ga, vb, rfl, g2, g3⟩ := h4.get hy
    have iT := Imm.new (o := .tup [.int (i : Nat), .ref ga]) hT
    have i3 := i2.trans iT
    have hh3 := hh2.skip (o := .tup [.int (i : Nat), .ref ga]) hT
    obtain ⟨ba, bvs, rfl, b1, b2⟩ := g3.mono (i01.trans i3)
    have hm := List.mem_of_getElem? eg
    have htk : p.funs.take (i + 1) = p.funs.take i ++ [g] := by rw [List.take_add_one, eg]; rfl
    have hcl := cntSum_take p.funs (i + 1)
    have hil : i < p.funs.length := (List.getElem?_eq_some_iff.mp eg).1
    have hsum : ((p.funs.take (i + 1)).map fun f => cntDs f.body).sum = ((p.funs.take i).map fun f => cntDs f.body).sum + cntDs g.body := by rw [htk, List.map_append, List.sum_append]; simp
    have hpl : plFuns (p.funs.take (i + 1)) 0 = plFuns (p.funs.take i) 0 ++ List.replicate (cntDs g.body) i := by rw [htk, plFuns_app, List.length_take, Nat.zero_add, Nat.min_eq_left (by omega)]
    have hnf : (numFs (p.funs.take (i + 1)) 0).1 = (numFs (p.funs.take i) 0).1 ++ [(numDs g.body ((p.funs.take i).map fun f => cntDs f.body).sum).1] := by rw [htk, numFs_app, numFs_snd, Nat.zero_add]
    refine ⟨T, _, rfl, .inl (.inl upd_same), rfl, _, _, rfl, _, _, rfl, rfl, rfl, ?_⟩
    refine ⟨_, rfl, x, dx, _, rfl, hh3.tail.head, nmNumberer_body, _, rfl, ga, _, 2, _, rfl, rfl, (i01.trans i3).t g2, rfl, _, rfl, ?_⟩
    refine ⟨x, dx, fl, ba, ((p.funs.take i).map fun f => cntDs f.body).sum, i, g.names, p.cells.length, p.params, plFuns (p.funs.take i) 0, g.body, bvs, (D, .lst rs) :: R, rfl, Nat.lt_succ_of_le (W.deep g hm), ?_, b1, b2, W.bodies g hm, ?_, fun H4 r xs i4 hh4 f4 n4 => ?_⟩
    · have := hh3.pull 1 rfl
      have := this.pull 2 rfl
      exact this.pull 1 rfl
    · rw [plFuns_len]; omega
    · have hh5 : Holds H4 ((D, .lst rs) :: NbC K x dx (((p.funs.take i).map fun f => cntDs f.body).sum + cntDs g.body) fl (plFuns (p.funs.take i) 0 ++ List.replicate (cntDs g.body) i) R) := hh4.pull 2 rfl
      refine ⟨rs, hh5.head, small_sz (by omega), rs ++ [.ref r], i3.trans (i4.trans (hh5.imm rfl)), ?_, ?_, ?_⟩
      · rw [hsum, hpl]; exact hh5.upd
      · rw [hnf]
        exact NBsAt.app (hrs.mono (iT.trans (i4.trans (hh5.imm rfl)))) ⟨r, xs, [], rfl, (hh5.imm rfl).f f4, n4.mono (hh5.imm rfl), rfl⟩
      · rw [List.length_append]; simp only [List.length_singleton]; omega
  · obtain ⟨rs, i2, hh2, hrs, hrl⟩ := hP
    rw [hl3, List.take_length] at hh2 hrs
    refine ⟨fun z => z = D, fun H3 fz => ?_⟩
    have i3 := Imm.frzd fz
    have hD3 := sqf_of (K := K) fz (a := D) rfl hh2.head
    have hh3 : Holds H3 _ := hh2.tail.frzd fz fun p hp z => hh2.ne hp z.symm
    refine ⟨_, rfl, _, rfl, x, dx, _, _, rfl, hh3.head, (by show 2 ≤ sizeLine; decide), fun t ht => ?_⟩
    have i4 := Imm.new (o := .tup [.ref D, .ref fl]) ht
    have hh4 := hh3.skip (o := .tup [.ref D, .ref fl]) ht
    refine ⟨fun z => z = fl, fun H5 fz5 => ?_⟩
    have i5 := Imm.frzd fz5
    have hf5 := sqf_of (K := K) fz5 (a := fl) rfl hh4.tail.head
    refine q H5 t D fl rs (i01.trans (i2.trans (i3.trans (i4.trans i5)))) (hh4.tail.tail.frzd fz5 fun p hp z => hh4.tail.ne hp z.symm) ?_ ((i4.trans i5).f hD3) (hrs.mono (i3.trans (i4.trans i5))) hf5
    exact i5.t (.inl (.inl upd_same))
/-! ### tasks, frames, hands in the heap -/
section
variable (K : PySem.W.Frag) (H : Hp)
def TaskAt : Task → V → Prop
  | .body b, v => ∃ a vb, v = .ref a ∧ SqT K H a [.str "body", .ref vb] ∧ NBAt K H b (.ref vb)
  | .deed d, v => ∃ a vd, v = .ref a ∧ SqT K H a [.str "deed", vd] ∧ NDAt K H d vd
  | .loop n b, v => ∃ a vb, v = .ref a ∧ SqT K H a [.str "loop", .int (n : Nat), .ref vb] ∧ NBAt K H b (.ref vb)
  | .into k, v => ∃ a, v = .ref a ∧ SqT K H a [.str "into", .int (k : Nat)]
def TsAt : List Task → List V → Prop
  | [], vs => vs = []
  | t :: r, vs => ∃ v s, vs = v :: s ∧ TaskAt K H t v ∧ TsAt r s
def HdsAt : List (Nat × Nat) → List V → Prop
  | [], vs => vs = []
  | x :: r, vs => ∃ a s, vs = .ref a :: s ∧ SqT K H a [.int (x.1 : Nat), .int (x.2 : Nat)] ∧ HdsAt r s
end
section
variable {K : PySem.W.Frag} {H H' : Hp}
theorem TaskAt.mono (i : Imm H H') {t : Task} {v : V} (h : TaskAt K H t v) : TaskAt K H' t v := by
  cases t with
  | body b => obtain ⟨a, vb, e, h1, h2⟩ := h; exact ⟨a, vb, e, i.t h1, h2.mono i⟩
  | deed d => obtain ⟨a, vb, e, h1, h2⟩ := h; exact ⟨a, vb, e, i.t h1, h2.mono i⟩
  | loop n b => obtain ⟨a, vb, e, h1, h2⟩ := h; exact ⟨a, vb, e, i.t h1, h2.mono i⟩
  | into k => obtain ⟨a, e, h1⟩ := h; exact ⟨a, e, i.t h1⟩
theorem TsAt.mono (i : Imm H H') : ∀ {t : List Task} {v : List V}, TsAt K H t v → TsAt K H' t v
  | [], v, h => h
  | t :: r, v, ⟨a, s, e, h, h1⟩ => ⟨a, s, e, h.mono i, TsAt.mono i h1⟩
theorem HdsAt.mono (i : Imm H H') : ∀ {t : List (Nat × Nat)} {v : List V}, HdsAt K H t v → HdsAt K H' t v
  | [], v, h => h
  | t :: r, v, ⟨a, s, e, h, h1⟩ => ⟨a, s, e, i.t h, HdsAt.mono i h1⟩
theorem HdsAt.get : ∀ {t : List (Nat × Nat)} {v : List V} {i : Nat} {x : Nat × Nat}, HdsAt K H t v → t[i]? = some x → ∃ a, v[i]? = some (.ref a) ∧ SqT K H a [.int (x.1 : Nat), .int (x.2 : Nat)]
  | [], v, i, x, h, e => by simp at e
  | t :: r, v, 0, x, ⟨a, s, e, h, h1⟩, e2 => by simp at e2; subst e2; exact ⟨a, by rw [e]; rfl, h⟩
  | t :: r, v, i + 1, x, ⟨a, s, e, h, h1⟩, e2 => by
    obtain ⟨b, e3, h3⟩ := HdsAt.get (i := i) h1 (by simpa using e2)
    exact ⟨b, by rw [e]; simpa using e3, h3⟩
theorem HdsAt.app : ∀ {p q : List (Nat × Nat)} {v u : List V}, HdsAt K H p v → HdsAt K H q u → HdsAt K H (p ++ q) (v ++ u)
  | [], q, v, u, h, h2 => by rw [show v = [] from h]; exact h2
  | p :: r, q, v, u, ⟨a, t, e, h, h1⟩, h2 => ⟨a, t ++ u, by rw [e]; rfl, h, HdsAt.app h1 h2⟩
theorem TsAt.app : ∀ {p q : List Task} {v u : List V}, TsAt K H p v → TsAt K H q u → TsAt K H (p ++ q) (v ++ u)
  | [], q, v, u, h, h2 => by rw [show v = [] from h]; exact h2
  | p :: r, q, v, u, ⟨a, t, e, h, h1⟩, h2 => ⟨a, t ++ u, by rw [e]; rfl, h, TsAt.app h1 h2⟩
theorem TsAt.len : ∀ {p : List Task} {v : List V}, TsAt K H p v → v.length = p.length
  | [], v, h => by rw [show v = [] from h]; rfl
  | p :: r, v, ⟨a, t, e, h, h1⟩ => by rw [e, List.length_cons, List.length_cons, TsAt.len h1]
theorem NDsAt.get : ∀ {p : List ND} {v : List V} {i : Nat} {x : V}, NDsAt K H p v → v[i]? = some x → ∃ q, p[i]? = some q ∧ NDAt K H q x
  | [], v, i, x, h, e => by rw [show v = [] from h] at e; simp at e
  | p :: r, v, 0, x, ⟨a, t, e, h, h1⟩, e2 => by rw [e] at e2; simp at e2; subst e2; exact ⟨p, rfl, h⟩
  | p :: r, v, i + 1, x, ⟨a, t, e, h, h1⟩, e2 => by rw [e] at e2; exact NDsAt.get (i := i) h1 (by simpa using e2)
end
structure FG where
  x : Addr
  dx : Addr
  na : Addr
  ta : Addr
  tv : List V
def atV : Option Nat → V
  | none => .non
  | some n => .int (n : Nat)
abbrev frO (K : PySem.W.Frag) (g : FG) (f : Fr) : HO := .ins (He.ga K "Frame") g.dx (flFrame (.int (f.fn : Nat)) (.ref g.na) (.ref g.ta) (atV f.at_))
abbrev frC (K : PySem.W.Frag) (g : FG) (f : Fr) : List (Addr × HO) := [(g.x, frO K g f), (g.na, .lst (f.names.map V.int)), (g.ta, .lst g.tv)]
def frsC (K : PySem.W.Frag) : List FG → List Fr → List (Addr × HO)
  | g :: gs, f :: fs => frC K g f ++ frsC K gs fs
  | _, _ => []
def FrsAt (K : PySem.W.Frag) (H : Hp) : List FG → List Fr → Prop
  | [], [] => True
  | g :: gs, f :: fs => TsAt K H f.todo g.tv.reverse ∧ FrsAt K H gs fs
  | _, _ => False
theorem FrsAt.mono {K : PySem.W.Frag} {H H' : Hp} (i : Imm H H') : ∀ {gs : List FG} {fs : List Fr}, FrsAt K H gs fs → FrsAt K H' gs fs
  | [], [], h => h
  | g :: gs, f :: fs, ⟨h1, h2⟩ => ⟨h1.mono i, FrsAt.mono i h2⟩
  | [], _ :: _, h => h.elim
  | _ :: _, [], h => h.elim
theorem FrsAt.len {K : PySem.W.Frag} {H : Hp} : ∀ {gs : List FG} {fs : List Fr}, FrsAt K H gs fs → gs.length = fs.length
  | [], [], h => rfl
  | g :: gs, f :: fs, ⟨h1, h2⟩ => by rw [List.length_cons, List.length_cons, FrsAt.len h2]
  | [], _ :: _, h => h.elim
  | _ :: _, [], h => h.elim
def hlV (gs : List FG) : List V := (gs.map fun g => V.ref g.x).reverse
abbrev hC (K : PySem.W.Frag) (hl : Addr) (gs : List FG) (fs : List Fr) : List (Addr × HO) := (hl, .lst (hlV gs)) :: frsC K gs fs
/-! what may stand in a frame -/
section
variable (names cells : Nat) (params : List Nat)
mutual
def NDOk : ND → Prop
  | .mk _ d i => d.wf names cells params = true ∧ d.dp ≤ 9 ∧ i.length = (bodiesOf d.items).length ∧ NBsOk i
def NDsOk : List ND → Prop
  | [] => True
  | d :: r => NDOk d ∧ NDsOk r
def NBsOk : List (List ND) → Prop
  | [] => True
  | b :: r => NDsOk b ∧ NBsOk r
end
def TkOk : Task → Prop
  | .body b => NDsOk names cells params b
  | .deed d => NDOk names cells params d
  | .loop n b => n ≤ 9 ∧ NDsOk names cells params b
  | .into _ => False
end
/-! ### Frame.__init__ -/
def sp_Frame_init (K : PySem.W.Frag) (w : World) : Sp := fun vs H Q _ => ∃ (x dx na : Addr) (fn : Nat) (vb : V) (R : List (Addr × HO)), vs = [.ref x, .int (fn : Nat), .ref na, vb] ∧ Holds H ((x, .ins (He.ga K "Frame") dx []) :: R) ∧
  ∀ H' ta tk, Imm H H' → Holds H' ((x, .ins (He.ga K "Frame") dx (flFrame (.int (fn : Nat)) (.ref na) (.ref ta) .non)) :: (ta, .lst [.ref tk]) :: R) → SqT K H' tk [.str "body", vb] → Q .non H'
abbrev n_m_Frame_init : List Str := ["self", "fun", "names", "body"]
def t_m_Frame_init (K : PySem.W.Frag) (w : World)  : TS :=
 (tSeq (sFld K (tVar 0) (tVar 1) "fun")
 (tSeq (sFld K (tVar 0) (tVar 2) "names")
 (tSeq (sFld K (tVar 0) (tLst (tCons (tTup (tCons (tC (.str "body")) (tCons (tVar 3) tNil))) tNil)) "todo")
 (sFld K (tVar 0) (tC .non) "at"))))
theorem pu_m_Frame_init {K : PySem.W.Frag} {w : World} (F : Fcts K) (vs : List V) (H : Hp) (Q : VK) (E : XK) (h : sp_Frame_init K w vs H Q E) : t_m_Frame_init K w { nx := fun _ H' => Q .non H', rt := Q } (start n_m_Frame_init vs) H := by
  obtain ⟨x, dx, na, fn, vb, R, rfl, hH, q⟩ := h
  refine ⟨_, rfl, _, rfl, x, _, dx, _, rfl, hH.head, F.clFrame, F.naFrame_fun, (by show 0 < 1000; decide), ?_⟩
  have h1 := hH.upd (o' := .ins (He.ga K "Frame") dx (putF "fun" (.int (fn : Nat)) []))
  refine ⟨_, rfl, _, rfl, x, _, dx, _, rfl, h1.head, F.clFrame, F.naFrame_names, (by show 1 < 1000; decide), ?_⟩
  have h2 := h1.upd (o' := .ins (He.ga K "Frame") dx (putF "names" (.ref na) (putF "fun" (.int (fn : Nat)) [])))
  refine ⟨_, rfl, (by show 2 ≤ sizeLine; decide), fun tk htk => ?_⟩
  have h3 := h2.skip (o := .tup [.str "body", vb]) htk
  refine ⟨(by show 1 ≤ sizeLine; decide), fun ta hta => ?_⟩
  have h4 := h3.new (o := .lst [.ref tk]) hta
  refine ⟨_, rfl, x, _, dx, _, rfl, h4.tail.head, F.clFrame, F.naFrame_todo, (by show 2 < 1000; decide), ?_⟩
  have h5 := (h4.pull 1 rfl).upd (o' := .ins (He.ga K "Frame") dx (putF "todo" (.ref ta) (putF "names" (.ref na) (putF "fun" (.int (fn : Nat)) []))))
  refine ⟨_, rfl, x, _, dx, _, rfl, h5.head, F.clFrame, F.naFrame_at, (by show 3 < 1000; decide), ?_⟩
  have i5 := (Imm.new (o := .lst [.ref tk]) hta).trans ((Imm.upd (o' := .ins (He.ga K "Frame") dx (putF "todo" (.ref ta) (putF "names" (.ref na) (putF "fun" (.int (fn : Nat)) [])))) h4.tail.head rfl).trans (h5.imm (o' := .ins (He.ga K "Frame") dx (putF "at" .non (putF "todo" (.ref ta) (putF "names" (.ref na) (putF "fun" (.int (fn : Nat)) []))))) rfl))
  refine q _ ta tk ((hH.imm rfl).trans ((h1.imm rfl).trans ((Imm.new htk).trans i5))) ?_ (i5.t (.inl (.inl upd_same)))
  rw [inFrame]
  exact h5.upd
end SD
set_option Elab.async false
set_option linter.all false
set_option maxRecDepth 100000
set_option maxHeartbeats 4000000
namespace SD
open PySem PySem.Spec PyProof.Rows L2
/-! ### what may stand in a frame: with shapes and sizes -/
mutual
def NOk (names cells : Nat) (params : List Nat) (P : Nat → Prop) : ND → Prop
  | .mk p d i => d.wf names cells params = true ∧ d.dp ≤ 8 ∧ i.map (fun b => b.map ND.d) = bodiesOf d.items ∧ NsOk2 names cells params P i ∧ P p
def NsOk (names cells : Nat) (params : List Nat) (P : Nat → Prop) : List ND → Prop
  | [] => True
  | d :: r => NOk names cells params P d ∧ NsOk names cells params P r
def NsOk2 (names cells : Nat) (params : List Nat) (P : Nat → Prop) : List (List ND) → Prop
  | [] => True
  | b :: r => NsOk names cells params P b ∧ NsOk2 names cells params P r
end
def TOk (names cells : Nat) (params : List Nat) (P : Nat → Prop) : Task → Prop
  | .body b => NsOk names cells params P b
  | .deed d => NOk names cells params P d
  | .loop n b => n ≤ 9 ∧ NsOk names cells params P b
  | .into _ => False
def szNs (b : List ND) : Nat := szDs (b.map ND.d)
def TkM : Task → Nat
  | .body b => 2 * szNs b + 1
  | .deed d => 2 * d.d.sz
  | .loop _ b => 2 * szNs b + 2
  | .into _ => 1
def HtOk : List Task → Prop
  | [] => True
  | t :: r => r.length + TkM t ≤ 205 ∧ HtOk r
theorem TkM_pos (t : Task) : 1 ≤ TkM t := by
  cases t with
  | deed d => have := szDd_pos d.d; simp only [TkM]; omega
  | _ => simp [TkM]
theorem HtOk.len : ∀ {ts : List Task}, HtOk ts → ts.length ≤ 205
  | [], _ => by simp
  | t :: r, h => by have := TkM_pos t; have := h.1; simp only [List.length_cons]; omega
theorem len_le_sz : ∀ b : List Dd, b.length ≤ szDs b
  | [] => by simp [szDs]
  | d :: r => by have := szDd_pos d; have := len_le_sz r; simp only [szDs, List.length_cons]; omega
theorem HtOk.deeds : ∀ (b : List ND) {ts : List Task}, HtOk ts → ts.length + 2 * szNs b ≤ 205 → HtOk (b.map Task.deed ++ ts)
  | [], ts, h, _ => h
  | d :: r, ts, h, hb => by
    have e : szNs (d :: r) = d.d.sz + szNs r := rfl
    have hl := len_le_sz (r.map ND.d)
    rw [List.length_map] at hl
    have hl2 : r.length ≤ szNs r := hl
    refine ⟨?_, HtOk.deeds r h (by omega)⟩
    show (r.map Task.deed ++ ts).length + 2 * d.d.sz ≤ 205
    rw [List.length_append, List.length_map]; omega
theorem HtOk.unfold {t : Task} {ts : List Task} (h : HtOk (t :: ts)) (ni : ∀ k, t ≠ .into k) (nd : ∀ d, t ≠ .deed d) : HtOk (unfoldT t ts) := by
  obtain ⟨h1, h2⟩ := h
  cases t with
  | body b => exact HtOk.deeds b h2 (by simp only [TkM] at h1; omega)
  | deed d => exact absurd rfl (nd d)
  | loop n b =>
    cases n with
    | zero => exact h2
    | succ n =>
      simp only [TkM] at h1
      exact ⟨by simp only [TkM, List.length_cons]; omega, by simp only [TkM]; omega, h2⟩
  | into k => exact absurd rfl (ni k)
theorem Holds.del {H : Hp} {L : List (Addr × HO)} (h : Holds H L) (i : Nat) : Holds H (L.eraseIdx i) :=
  ⟨((List.eraseIdx_sublist L i).map _).nodup h.nd, fun p m => h.at_ p ((List.eraseIdx_sublist L i).subset m)⟩
/-! ### Machine.frame -/
def sp_Machine_frame (K : PySem.W.Frag) (w : World) : Sp := fun vs H Q _ => ∃ (m dx hd bd wa : Addr) (fs : List (Str × V)) (hv bv : List V) (heads : List (Nat × Nat)) (bodies : List (List ND)) (fn : Nat) (hdr : Nat × Nat) (ws : List Int) (R : List (Addr × HO)), vs = [.ref m, .int (fn : Nat), .ref wa] ∧
  Holds H ((wa, .lst (ws.map V.int)) :: (m, .ins (He.ga K "Machine") dx fs) :: R) ∧ fs.lookup ("heads" : Str) = some (.ref hd) ∧ fs.lookup ("bodies" : Str) = some (.ref bd) ∧
  SqF K H hd hv ∧ HdsAt K H heads hv ∧ SqF K H bd bv ∧ NBsAt K H bodies bv ∧ heads[fn]? = some hdr ∧ fn < bodies.length ∧ ws.length ≤ hdr.2 ∧ hdr.2 ≤ 4 ∧
  ∀ H' g, Imm H H' → Holds H' (frC K g (mkFrame bodies heads fn ws) ++ (m, .ins (He.ga K "Machine") dx fs) :: R) → TsAt K H' [.body (bodies.getD fn [])] g.tv.reverse → Q (.ref g.x) H'
abbrev n_m_Machine_frame : List Str := ["self", "fun", "worths"]
def t_m_Machine_frame (K : PySem.W.Frag) (w : World)  : TS :=
 (tRet (tMake (He.ga K "Frame") (sp_Frame_init K w) [] E0 (tCons (tVar 1) (tCons (tOp rCat (tVar 2) (tOp rRep (tLst (tCons (tC (.int 0)) tNil)) (tOp (rI0 fun i j => .int (i - j)) (tOp (rIxT K) (tOp (rIxL K) (tFld K (tVar 0) "heads") (tVar 1)) (tC (.int 1))) (tCB (rLenS' K) (tCons (tVar 2) tNil))))) (tCons (tOp (rIxL K) (tFld K (tVar 0) "bodies") (tVar 1)) tNil)))))
theorem flat_rep (n : Nat) : (List.replicate n [V.int 0]).flatten = List.replicate n (V.int 0) := by
  induction n with
  | zero => rfl
  | succ n ih => rw [List.replicate_succ, List.flatten_cons, ih]; rfl
theorem pu_m_Machine_frame {K : PySem.W.Frag} {w : World} (F : Fcts K) (vs : List V) (H : Hp) (Q : VK) (E : XK) (h : sp_Machine_frame K w vs H Q E) : t_m_Machine_frame K w { nx := fun _ H' => Q .non H', rt := Q } (start n_m_Machine_frame vs) H := by
  obtain ⟨m, dx, hd, bd, wa, fs, hv, bv, heads, bodies, fn, hdr, ws, R, rfl, hH, l1, l2, s1, s2, s3, s4, e1, e2, hw, h4, q⟩ := h
  obtain ⟨ha, ea, hat⟩ := s2.get e1
  have hwl : (ws.map V.int).length = ws.length := List.length_map _
  refine ⟨_, rfl, _, rfl, (by show 1 ≤ sizeLine; decide), fun p hp => ?_⟩
  have h1 := hH.new (o := .lst [.int 0]) hp
  have i1 := Imm.new (o := .lst [.int 0]) hp
  refine ⟨_, rfl, m, _, dx, _, _, rfl, h1.tail.tail.head, F.clMachine, F.naMachine_heads, l1, _, rfl, hd, _, _, _, rfl, rfl, (i1.f s1).l, atI_nat ea, ha, _, 1, _, rfl, rfl, i1.t hat, rfl, ?_⟩
  refine ⟨_, rfl, wa, _, rfl, .inl (SqL.of h1.tail.head), _, _, rfl, rfl, p, _, _, rfl, rfl, h1.head, by rw [hwl]; omega, by rw [hwl]; omega, ?_, fun r hr => ?_⟩
  · rw [hwl]; simp only [List.length_singleton, Nat.one_mul]
    exact Nat.le_trans (by omega : ((hdr.2 : Int) - (ws.length : Int)).toNat ≤ 4) (by decide)
  have en : (((hdr.2 : Nat) : Int) - ((ws.map V.int).length : Int)).toNat = hdr.2 - ws.length := by rw [hwl]; omega
  rw [en, flat_rep]
  have h2 := h1.new (o := .lst (List.replicate (hdr.2 - ws.length) (.int 0))) hr
  have i2 := i1.trans (Imm.new (o := .lst (List.replicate (hdr.2 - ws.length) (.int 0))) hr)
  refine ⟨wa, r, _, _, rfl, rfl, h2.tail.tail.head, h2.head, ?_, fun na hna => ?_⟩
  · rw [hwl, List.length_replicate]
    exact Nat.le_trans (by omega : ws.length + (hdr.2 - ws.length) ≤ 4) (by decide)
  have en2 : ws.map V.int ++ List.replicate (hdr.2 - ws.length) (.int 0) = (mkFrame bodies heads fn ws).names.map V.int := by
    show _ = (ws ++ List.replicate ((heads.getD fn (0, 0)).2 - ws.length) 0).map V.int
    rw [List.getD_eq_getElem?_getD, e1, List.map_append, List.map_replicate]
    rfl
  rw [en2]
  have h3 := h2.new (o := .lst ((mkFrame bodies heads fn ws).names.map V.int)) hna
  have i3 := i2.trans (Imm.new (o := .lst ((mkFrame bodies heads fn ws).names.map V.int)) hna)
  obtain ⟨qb, eqb, bb, bx, eb, b1, b2⟩ := s4.get (List.getElem?_eq_getElem (by rw [s4.len]; exact e2 : fn < bv.length))
  have hqb : bodies.getD fn [] = qb := by rw [List.getD_eq_getElem?_getD, eqb]; rfl
  refine ⟨_, rfl, m, _, dx, _, _, rfl, h3.tail.tail.tail.tail.head, F.clMachine, F.naMachine_bodies, l2, _, rfl, bd, _, _, _, rfl, rfl, (i3.f s3).l, atI_nat (List.getElem?_eq_getElem (by rw [s4.len]; exact e2)), ?_⟩
  intro x dx2 hx hdx hne
  have hx2 : upd (upd (upd (upd H p (.lst [.int 0])) r (.lst (List.replicate (hdr.2 - ws.length) (.int 0)))) na (.lst ((mkFrame bodies heads fn ws).names.map V.int))) dx2 (.own x) x = none := by rw [upd_ne hne.symm]; exact hx
  have h5 := (h3.skip (o := .own x) hdx).new (o := .ins (He.ga K "Frame") dx2 []) hx2
  have i5 := i3.trans ((Imm.new (o := .own x) hdx).trans (Imm.new (o := .ins (He.ga K "Frame") dx2 []) hx2))
  refine ⟨x, dx2, na, fn, _, _, rfl, h5, fun H6 ta tk i6 h6 ht6 => ⟨rfl, ?_⟩⟩
  refine q H6 ⟨x, dx2, na, ta, [.ref tk]⟩ (i5.trans i6) ?_ ?_
  · exact ((((h6.del 5).del 4).del 3).pull 2 rfl).pull 1 rfl
  · refine ⟨.ref tk, [], rfl, ?_, rfl⟩
    rw [hqb]
    rw [eb] at ht6
    exact ⟨tk, bb, rfl, ht6, bb, bx, rfl, (i5.trans i6).f b1, b2.mono (i5.trans i6)⟩
end SD
set_option Elab.async false
set_option linter.all false
set_option maxRecDepth 100000
set_option maxHeartbeats 4000000
namespace SD
open PySem PySem.Spec PyProof.Rows L2
theorem rev_cons {α : Type} {l : List α} {v : α} {s : List α} (h : l.reverse = v :: s) : l = s.reverse ++ [v] := by
  have := congrArg List.reverse h
  rwa [List.reverse_reverse, List.reverse_cons] at this
/-! ### Machine.unfold -/
def sp_Machine_unfold (K : PySem.W.Frag) (w : World) : Sp := fun vs H Q _ => ∃ (vm : V) (g : FG) (f : Fr) (t : Task) (tk : Addr) (R : List (Addr × HO)), vs = [vm, .ref g.x, .ref tk] ∧ Holds H (frC K g f ++ R) ∧ TsAt K H f.todo g.tv.reverse ∧ TaskAt K H t (.ref tk) ∧
  HtOk (t :: f.todo) ∧ (∀ k, t ≠ .into k) ∧ (∀ d, t ≠ .deed d) ∧ ∀ H' tv', Imm H H' → Holds H' (frC K { g with tv := tv' } { f with todo := unfoldT t f.todo } ++ R) → TsAt K H' (unfoldT t f.todo) tv'.reverse → Q .non H'
abbrev n_m_Machine_unfold : List Str := ["self", "frame", "task", "deed"]
def t_m_Machine_unfold (K : PySem.W.Frag) (w : World)  : TS :=
 (tIfS (tTest (tOp rEq (tOp (rIxT K) (tVar 2) (tC (.int 0))) (tC (.str "body")))) (tDrop (tBM K "list" rExtend (xfFrame_todo K (tVar 1)) (tCons (tLc (iList K (tRevL K (tOp (rIxT K) (tVar 2) (tC (.int 1))))) (gName 3) tYes (tTup (tCons (tC (.str "deed")) (tCons (tVar 3) tNil))) [3]) tNil))) (tIfS (tTest (tOp (rI0 fun i j => .bl (decide (j < i))) (tOp (rIxT K) (tVar 2) (tC (.int 1))) (tC (.int 0)))) (tDrop (tBM K "list" rExtend (xfFrame_todo K (tVar 1)) (tCons (tLst (tCons (tTup (tCons (tC (.str "loop")) (tCons (tOp (rI0 fun i j => .int (i - j)) (tOp (rIxT K) (tVar 2) (tC (.int 1))) (tC (.int 1))) (tCons (tOp (rIxT K) (tVar 2) (tC (.int 2))) tNil)))) (tCons (tTup (tCons (tC (.str "body")) (tCons (tOp (rIxT K) (tVar 2) (tC (.int 2))) tNil))) tNil))) tNil))) tNext))
theorem pu_m_Machine_unfold {K : PySem.W.Frag} {w : World} (vs : List V) (H : Hp) (Q : VK) (E : XK) (h : sp_Machine_unfold K w vs H Q E) : t_m_Machine_unfold K w { nx := fun _ H' => Q .non H', rt := Q } (start n_m_Machine_unfold vs) H := by
  obtain ⟨vm, g, f, t, tk, R, rfl, hH, hts, ht, hk, ni, nd, q⟩ := h
  have htl := hts.len
  rw [List.length_reverse] at htl
  have hl := hk.2.len
  have hx := hH.head
  have hta := hH.tail.tail.head
  have hku := hk.unfold ni nd
  cases t with
  | into k => exact absurd rfl (ni k)
  | deed d => exact absurd rfl (nd d)
  | body b =>
    obtain ⟨a, vb, e, h1, ⟨b', xs, e', h2, h3⟩⟩ := ht
    cases e; cases e'
    have hxl := h3.len
    refine ⟨_, rfl, tk, _, 0, _, rfl, rfl, h1, rfl, rfl, _, rfl, iteT ?_⟩
    refine ⟨_, rfl, g.x, g.dx, _, _, _, _, rfl, hx, tyL hta, _, rfl, tk, _, 1, _, rfl, rfl, h1, rfl, vb, xs, rfl, h2.l, fun p hp => ?_⟩
    have hH1 := hH.new (o := .lst xs.reverse) hp
    have i1 := Imm.new (o := .lst xs.reverse) hp
    refine ⟨p, rfl, ⟨_, SqL.of upd_same⟩, fun D hD => ?_⟩
    have hbl : b.length ≤ 205 := by
      have h5 := hku.len
      simp only [unfoldT, List.length_append, List.length_map] at h5; omega
    refine lc_it (walk_list (xs := xs.reverse)) (fun i H2 => ∃ zs, Imm H H2 ∧ Holds H2 ((D, .lst zs) :: (p, .lst xs.reverse) :: (frC K g f ++ R)) ∧ TsAt K H2 ((b.drop (b.length - i)).map Task.deed) zs.reverse ∧ zs.length = i)
      ⟨[], i1.trans (.new hD), hH1.new hD, by simp [TsAt], rfl⟩ (fun i H2 _ ⟨_, _, hh, _⟩ => SqL.of hh.tail.head) (fun i u H2 H3 hlt hP hY => ?_) fun H2 hP => ?_
    · obtain ⟨zs, i2, hh, hz, hzl⟩ := hP
      obtain ⟨rfl, hu⟩ := hY
      rw [List.length_reverse] at hlt
      rw [List.getElem?_reverse hlt] at hu
      obtain ⟨nd', end', hnd⟩ := h3.get hu
      refine ⟨rfl, _, rfl, (by show 2 ≤ sizeLine; decide), fun t2 ht2 => ?_⟩
      have hh3 := hh.skip (o := .tup [.str "deed", u]) ht2
      have i3 := Imm.new (o := .tup [.str "deed", u]) ht2
      refine ⟨zs, hh3.head, small1000 (by omega), zs ++ [.ref t2], i2.trans (i3.trans (hh3.imm rfl)), hh3.upd, ?_, by rw [List.length_append, hzl]; rfl⟩
      rw [List.reverse_append]
      have hdr : b.drop (b.length - (i + 1)) = nd' :: b.drop (b.length - i) := by
        have hlt2 : b.length - (i + 1) < b.length := by omega
        rw [List.drop_eq_getElem_cons hlt2]
        have e3 : b.length - (i + 1) + 1 = b.length - i := by omega
        rw [e3]
        congr 1
        have : xs.length - 1 - i = b.length - (i + 1) := by omega
        rw [this, List.getElem?_eq_getElem hlt2] at end'
        exact Option.some.inj end'
      rw [hdr]
      exact ⟨.ref t2, zs.reverse, rfl, ⟨t2, u, rfl, (hh3.imm rfl).t (.inl (.inl upd_same)), hnd.mono (i2.trans (i3.trans (hh3.imm rfl)))⟩, hz.mono (i3.trans (hh3.imm rfl))⟩
    · obtain ⟨zs, i2, hh, hz, hzl⟩ := hP
      rw [List.length_reverse] at hz hzl
      rw [hxl, Nat.sub_self, List.drop_zero] at hz
      refine ⟨g.ta, D, _, _, rfl, rfl, hh.tail.tail.tail.tail.head, hh.head, ?_, ?_⟩
      · exact Nat.le_trans (by omega : g.tv.length + zs.length ≤ 410) (by decide)
      have hh4 := hh.tail.tail.set 2 (o' := .lst (g.tv ++ zs)) rfl
      have i4 : Imm _ (upd _ g.ta (.lst (g.tv ++ zs))) := Imm.upd hh.tail.tail.tail.tail.head rfl
      refine q _ (g.tv ++ zs) (i2.trans i4) hh4 ?_
      rw [List.reverse_append]
      exact TsAt.app (hz.mono i4) (hts.mono (i2.trans i4))
  | loop n b =>
    obtain ⟨a, vb, e, h1, ⟨b', xs, e', h2, h3⟩⟩ := ht
    cases e; cases e'
    refine ⟨_, rfl, tk, _, 0, _, rfl, rfl, h1, rfl, rfl, _, rfl, iteF ?_⟩
    refine ⟨_, rfl, tk, _, 1, _, rfl, rfl, h1, rfl, _, _, rfl, rfl, _, rfl, ?_⟩
    cases n with
    | zero =>
      refine iteDF (by omega) ?_
      exact q H g.tv (Imm.refl _) hH hts
    | succ n =>
      refine iteDT (by omega) ?_
      refine ⟨_, rfl, g.x, g.dx, _, _, _, _, rfl, hx, tyL hta, _, rfl, tk, _, 1, _, rfl, rfl, h1, rfl, _, _, rfl, rfl, _, rfl, tk, _, 2, _, rfl, rfl, h1, rfl, (by show 3 ≤ sizeLine; decide), fun p hp => ?_⟩
      have hH1 := hH.skip (o := .tup [.str "loop", .int (((n + 1 : Nat) : Int) - 1), .ref vb]) hp
      have i1 := Imm.new (o := .tup [.str "loop", .int (((n + 1 : Nat) : Int) - 1), .ref vb]) hp
      refine ⟨_, rfl, tk, _, 2, _, rfl, rfl, i1.t h1, rfl, (by show 2 ≤ sizeLine; decide), fun p2 hp2 => ?_⟩
      have hH2 := hH1.skip (o := .tup [.str "body", .ref vb]) hp2
      have i2 := Imm.new (o := .tup [.str "body", .ref vb]) hp2
      refine ⟨(by show 2 ≤ sizeLine; decide), fun D hD => ?_⟩
      have hH3 := hH2.new (o := .lst [.ref p, .ref p2]) hD
      have i3 := Imm.new (o := .lst [.ref p, .ref p2]) hD
      refine ⟨g.ta, D, _, _, rfl, rfl, hH3.tail.tail.tail.head, hH3.head, ?_, ?_⟩
      · exact Nat.le_trans (by simp only [List.length_cons, List.length_nil]; omega : g.tv.length + [V.ref p, V.ref p2].length ≤ 410) (by decide)
      have hh4 := hH3.tail.set 2 (o' := .lst (g.tv ++ [.ref p, .ref p2])) rfl
      have i4 : Imm _ (upd _ g.ta (.lst (g.tv ++ [.ref p, .ref p2]))) := Imm.upd hH3.tail.tail.tail.head rfl
      have i24 := i2.trans (i3.trans i4)
      refine q _ (g.tv ++ [V.ref p, V.ref p2]) (i1.trans i24) hh4 ?_
      rw [List.reverse_append]
      refine ⟨.ref p2, .ref p :: g.tv.reverse, rfl, ⟨p2, vb, rfl, (i3.trans i4).t (.inl (.inl upd_same)), vb, xs, rfl, (i1.trans i24).f h2, h3.mono (i1.trans i24)⟩, .ref p, g.tv.reverse, rfl, ⟨p, vb, rfl, ?_, vb, xs, rfl, (i1.trans i24).f h2, h3.mono (i1.trans i24)⟩, hts.mono (i1.trans i24)⟩
      have e5 : (((n + 1 : Nat) : Int) - 1) = (n : Int) := by omega
      have h6 := i24.t (K := K) (a := p) (xs := [.str "loop", .int (((n + 1 : Nat) : Int) - 1), .ref vb]) (.inl (.inl upd_same))
      rw [← e5]
      exact h6
/-! ### Machine.back -/
theorem hlV_cons (g : FG) (gs : List FG) : hlV (g :: gs) = hlV gs ++ [.ref g.x] := by simp [hlV]
def sp_Machine_back (K : PySem.W.Frag) (w : World) : Sp := fun vs H Q _ => ∃ (vm : V) (hl : Addr) (g : FG) (gs : List FG) (f : Fr) (fs : List Fr) (v : Int) (R : List (Addr × HO)), vs = [vm, .ref hl, .int v] ∧ Holds H (hC K hl (g :: gs) (f :: fs) ++ R) ∧ FrsAt K H (g :: gs) (f :: fs) ∧
  (∀ f2 r, fs = f2 :: r → ∃ k rest, f2.todo = .into k :: rest ∧ k < f2.names.length) ∧
  ∀ H' gs', Imm H H' → Holds H' (hC K hl gs' (backF v fs) ++ R) → FrsAt K H' gs' (backF v fs) → Q .non H'
abbrev n_m_Machine_back : List Str := ["self", "frames", "number", "name"]
def t_m_Machine_back (K : PySem.W.Frag) (w : World)  : TS :=
 (tSeq (tDrop (tBM0 K "list" rPop (tVar 1)))
 (tIfS (tTest (tOp (rEqNil K true) (tVar 1) (tLst tNil))) (tSeq (tAsg (tOp (rIxT K) (tBM0 K "list" rPop (xfFrame_todo K (tOp (rIxL K) (tVar 1) (tUn (rU fun i => .int (-i)) (tC (.int 1)))))) (tC (.int 1))) (gName 3))
 (tAsg (tVar 2) (gSub (xfFrame_names K (tOp (rIxL K) (tVar 1) (tUn (rU fun i => .int (-i)) (tC (.int 1))))) (tVar 3) rSetL))) tNext))
theorem last_get {α : Type} (xs : List α) (y : α) : (xs ++ [y])[(xs ++ [y]).length - 1]? = some y := by simp
theorem pu_m_Machine_back {K : PySem.W.Frag} {w : World} (vs : List V) (H : Hp) (Q : VK) (E : XK) (h : sp_Machine_back K w vs H Q E) : t_m_Machine_back K w { nx := fun _ H' => Q .non H', rt := Q } (start n_m_Machine_back vs) H := by
  obtain ⟨vm, hl, g, gs, f, fs, v, R, rfl, hH, hF, hlow, q⟩ := h
  have hH : Holds H ((hl, .lst (hlV gs ++ [.ref g.x])) :: (frsC K (g :: gs) (f :: fs) ++ R)) := by rw [← hlV_cons]; exact hH
  have h0 := hH.head
  refine ⟨_, rfl, tyL h0, hl, _, _, rfl, rfl, h0, last_get _ _, ?_⟩
  rw [List.dropLast_concat]
  have h1 := hH.upd (o' := .lst (hlV gs))
  have i1 := hH.imm (o' := .lst (hlV gs)) rfl
  have h1' : Holds (upd H hl (.lst (hlV gs))) (hC K hl gs fs ++ R) := ((h1.del 1).del 1).del 1
  generalize upd H hl (.lst (hlV gs)) = H1 at h1' i1 ⊢
  refine ⟨_, rfl, Nat.zero_le _, fun p hp => ?_⟩
  have h2 := h1'.skip (o := .lst []) hp
  have i2 := Imm.new (o := .lst []) hp
  refine ⟨hl, p, _, rfl, rfl, SqL.of h2.head, SqL.of upd_same, _, rfl, ?_⟩
  have hF1 := hF.2.mono (i1.trans i2)
  cases fs with
  | nil =>
    have hg : gs = [] := List.eq_nil_of_length_eq_zero hF1.len
    subst hg
    refine iteF ?_
    exact q _ [] (i1.trans i2) h2 trivial
  | cons f2 r =>
    cases gs with
    | nil => exact hF1.elim
    | cons g2 gs2 =>
      obtain ⟨k, rest, et, hk⟩ := hlow f2 r rfl
      obtain ⟨hts, hF2⟩ := hF1
      rw [et] at hts
      obtain ⟨tkv, s, es, ⟨tk, rfl, htk⟩, hrest⟩ := hts
      have etv := rev_cons es
      have h2 : Holds (upd H1 p (.lst [])) ((hl, .lst (hlV gs2 ++ [.ref g2.x])) :: (frsC K (g2 :: gs2) (f2 :: r) ++ R)) := by rw [← hlV_cons]; exact h2
      have ene : (!(hlV (g2 :: gs2)).isEmpty) = true := by rw [hlV_cons]; simp
      rw [show (if true = true then !(hlV (g2 :: gs2)).isEmpty else (hlV (g2 :: gs2)).isEmpty) = true from ene]
      refine iteT ?_
      have hx := h2.tail.head
      have hna := h2.tail.tail.head
      have hta := h2.tail.tail.tail.head
      refine ⟨_, rfl, 1, rfl, hl, _, -1, _, rfl, rfl, SqL.of h2.head, atI_last _ _, g2.x, g2.dx, _, _, _, _, rfl, hx, tyL hta, g2.ta, _, .ref tk, rfl, rfl, hta, ?_, ?_⟩
      · rw [etv]; exact last_get _ _
      rw [show g2.tv.dropLast = s.reverse by rw [etv]; exact List.dropLast_concat]
      have h3 := h2.set 3 (o' := .lst s.reverse) rfl
      have i3 : Imm _ (upd _ g2.ta (.lst s.reverse)) := Imm.upd hta rfl
      have h3' : Holds _ ((hl, .lst (hlV gs2 ++ [.ref g2.x])) :: (g2.x, frO K g2 f2) :: (g2.na, .lst (f2.names.map V.int)) :: (g2.ta, .lst s.reverse) :: (frsC K gs2 r ++ R)) := h3
      generalize upd (upd H1 p (.lst [])) g2.ta (.lst s.reverse) = H3 at h3' i3 ⊢
      refine ⟨tk, _, 1, _, rfl, rfl, i3.t htk, rfl, ?_⟩
      refine ⟨_, rfl, _, rfl, 1, rfl, hl, _, -1, _, rfl, rfl, SqL.of h3'.head, atI_last _ _, g2.x, g2.dx, _, _, _, _, rfl, h3'.tail.head, _, rfl, g2.na, _, _, k, rfl, rfl, h3'.tail.tail.head, ?_, ?_⟩
      · unfold ixN
        rw [if_pos (by omega), if_pos (by rw [List.length_map]; omega)]
        rfl
      have em : (f2.names.map V.int).set k (.int v) = (f2.names.set k v).map V.int := by rw [List.map_set]
      rw [em]
      have h4 := h3'.set 2 (o' := .lst ((f2.names.set k v).map V.int)) rfl
      have i4 : Imm H3 (upd H3 g2.na (.lst ((f2.names.set k v).map V.int))) := Imm.upd h3'.tail.tail.head rfl
      have eb : backF v (f2 :: r) = { f2 with todo := rest, names := f2.names.set k v } :: r := by simp only [backF, et]
      refine q _ ({ g2 with tv := s.reverse } :: gs2) (i1.trans (i2.trans (i3.trans i4))) ?_ ?_
      · rw [eb]
        show Holds _ ((hl, .lst (hlV ({ g2 with tv := s.reverse } :: gs2))) :: (frsC K ({ g2 with tv := s.reverse } :: gs2) _ ++ R))
        rw [hlV_cons]; exact h4
      · rw [eb]
        refine ⟨?_, hF2.mono (i3.trans i4)⟩
        show TsAt K _ rest s.reverse.reverse
        rw [List.reverse_reverse]
        exact hrest.mono (i3.trans i4)
end SD
set_option Elab.async false
set_option linter.all false
set_option maxRecDepth 100000
set_option maxHeartbeats 4000000
namespace SD
open PySem PySem.Spec PyProof.Rows L2
/-! ### settling, plainly -/
def NoInto (ts : List Task) : Prop := ∀ t ∈ ts, ∀ k, t ≠ .into k
def LowOk (f : Fr) : Prop := HtOk f.todo ∧ ∃ k rest, f.todo = .into k :: rest ∧ k < f.names.length ∧ NoInto rest
def SetOk : List Fr → Prop
  | [] => True
  | f :: r => HtOk f.todo ∧ NoInto f.todo ∧ ∀ g ∈ r, LowOk g
theorem noInto_deeds (b : List ND) : NoInto (b.map Task.deed) := fun t ht k e => by
  obtain ⟨d, _, h⟩ := List.mem_map.mp ht
  rw [← h] at e; cases e
theorem noInto_unfold {t : Task} {ts : List Task} (h : NoInto (t :: ts)) : NoInto (unfoldT t ts) := by
  have h2 : NoInto ts := fun x hx => h x (List.mem_cons_of_mem _ hx)
  cases t with
  | body b => intro x hx; rcases List.mem_append.mp hx with q | q; exact noInto_deeds b x q; exact h2 x q
  | loop n b =>
    cases n with
    | zero => exact h2
    | succ n =>
      intro x hx k
      rcases List.mem_cons.mp hx with q | q
      · rw [q]; intro e; cases e
      rcases List.mem_cons.mp q with q | q
      · rw [q]; intro e; cases e
      · exact h2 x q k
  | deed d => exact h
  | into k => exact absurd rfl (h _ (List.mem_cons_self ..) k)
theorem SetOk.back {f : Fr} {r : List Fr} (v : Int) (h : SetOk (f :: r)) : SetOk (backF v r) := by
  cases r with
  | nil => trivial
  | cons f2 r2 =>
    obtain ⟨_, _, h3⟩ := h
    obtain ⟨h4, k, rest, e, hk, hn⟩ := h3 f2 (List.mem_cons_self ..)
    have eb : backF v (f2 :: r2) = { f2 with todo := rest, names := f2.names.set k v } :: r2 := by simp only [backF, e]
    rw [eb]
    rw [e] at h4
    exact ⟨h4.2, hn, fun g hg => h3 g (List.mem_cons_of_mem _ hg)⟩
theorem wt_deeds (b : List ND) (ts : List Task) : wtT (b.map Task.deed ++ ts) = wtT ts := by
  induction b with
  | nil => rfl
  | cons d r ih => show Task.wt (.deed d) + wtT (r.map Task.deed ++ ts) = wtT ts; rw [ih]; simp [Task.wt]
theorem wt_unfold {t : Task} {ts : List Task} (nd : ∀ d, t ≠ .deed d) (ni : ∀ k, t ≠ .into k) : wtT (unfoldT t ts) < wtT (t :: ts) := by
  cases t with
  | body b => simp only [unfoldT, wt_deeds, wtT, Task.wt]; omega
  | deed d => exact absurd rfl (nd d)
  | loop n b =>
    cases n with
    | zero => simp only [unfoldT, wtT, Task.wt]; omega
    | succ n => simp only [unfoldT, wtT, Task.wt]; omega
  | into k => exact absurd rfl (ni k)
theorem wt_back {f : Fr} {r : List Fr} (v : Int) : wtF (backF v r) < wtF (f :: r) := by
  cases r with
  | nil => simp only [backF, wtF]; omega
  | cons f2 r2 =>
    simp only [backF]
    split <;> rename_i h <;> simp only [wtF] <;> try rw [h]
    · simp only [wtT]; omega
    · omega
theorem settle1_step {fs fs' : List Fr} (h : SetOk fs) (e : settle1 fs = some fs') : SetOk fs' ∧ wtF fs' < wtF fs := by
  cases fs with
  | nil => cases e
  | cons f r =>
    cases ht : f.todo with
    | nil =>
      simp only [settle1, ht] at e
      cases e
      exact ⟨h.back 0, wt_back 0⟩
    | cons t ts =>
      simp only [settle1, ht] at e
      obtain ⟨h1, h2, h3⟩ := h
      rw [ht] at h1 h2
      have ni : ∀ k, t ≠ .into k := h2 t (List.mem_cons_self ..)
      cases t with
      | deed d => cases e
      | into k => exact absurd rfl (ni k)
      | body b =>
        cases e
        refine ⟨⟨h1.unfold (by simp) (by simp), noInto_unfold h2, h3⟩, ?_⟩
        have := wt_unfold (t := .body b) (ts := ts) (by simp) (by simp)
        simp only [wtF, ht]; omega
      | loop n b =>
        cases e
        refine ⟨⟨h1.unfold (by simp) (by simp), noInto_unfold h2, h3⟩, ?_⟩
        have := wt_unfold (t := .loop n b) (ts := ts) (by simp) (by simp)
        simp only [wtF, ht]; omega
theorem settleN_same : ∀ (n m : Nat) (fs : List Fr), SetOk fs → wtF fs ≤ n → wtF fs ≤ m → settleN n fs = settleN m fs
  | 0, 0, fs, _, _, _ => rfl
  | 0, m + 1, fs, h, h1, h2 => by
    cases e : settle1 fs with
    | none => simp [settleN, e]
    | some fs' => have := (settle1_step h e).2; omega
  | n + 1, 0, fs, h, h1, h2 => by
    cases e : settle1 fs with
    | none => simp [settleN, e]
    | some fs' => have := (settle1_step h e).2; omega
  | n + 1, m + 1, fs, h, h1, h2 => by
    cases e : settle1 fs with
    | none => simp [settleN, e]
    | some fs' =>
      have := settle1_step h e
      simp only [settleN, e]
      exact settleN_same n m fs' this.1 (by omega) (by omega)
theorem settle_none {fs : List Fr} (e : settle1 fs = none) : settle fs = fs := by
  unfold settle
  cases wtF fs with
  | zero => rfl
  | succ n => simp [settleN, e]
theorem settle_some {fs fs' : List Fr} (h : SetOk fs) (e : settle1 fs = some fs') : settle fs = settle fs' := by
  have hs := settle1_step h e
  unfold settle
  cases hw : wtF fs with
  | zero => omega
  | succ n =>
    simp only [settleN, e]
    exact settleN_same _ _ _ hs.1 (by omega) (Nat.le_refl _)
theorem settleN_ok : ∀ (n : Nat) (fs : List Fr), SetOk fs → SetOk (settleN n fs)
  | 0, fs, h => h
  | n + 1, fs, h => by
    cases e : settle1 fs with
    | none => simpa [settleN, e] using h
    | some fs' => simp only [settleN, e]; exact settleN_ok n fs' (settle1_step h e).1
theorem settleN_done : ∀ (n : Nat) (fs : List Fr), SetOk fs → wtF fs ≤ n → settle1 (settleN n fs) = none
  | 0, fs, h, hn => by
    cases e : settle1 fs with
    | none => simpa [settleN] using e
    | some fs' => have := (settle1_step h e).2; omega
  | n + 1, fs, h, hn => by
    cases e : settle1 fs with
    | none => simpa [settleN, e] using e
    | some fs' => have := settle1_step h e; simp only [settleN, e]; exact settleN_done n fs' this.1 (by omega)
theorem settle_done {fs : List Fr} (h : SetOk fs) : settle1 (settle fs) = none := settleN_done _ fs h (Nat.le_refl _)
theorem settle_ok {fs : List Fr} (h : SetOk fs) : SetOk (settle fs) := settleN_ok _ fs h
/-! ### Machine.settle -/
abbrev mO' (K : PySem.W.Frag) (dx : Addr) (v1 v2 v3 : V) (hs : Addr) (v5 v6 v7 : V) : HO := .ins (He.ga K "Machine") dx (flMachine v1 v2 v3 (.ref hs) v5 v6 v7)
def sp_Machine_settle (K : PySem.W.Frag) (w : World) : Sp := fun vs H Q _ => ∃ (m dx hs hl : Addr) (v1 v2 v3 v5 v6 v7 : V) (hvs : List V) (me : Nat) (gs : List FG) (fs : List Fr) (R : List (Addr × HO)), vs = [.ref m, .int (me : Nat)] ∧
  Holds H (hC K hl gs fs ++ (m, mO' K dx v1 v2 v3 hs v5 v6 v7) :: R) ∧ SqF K H hs hvs ∧ hvs[me]? = some (.ref hl) ∧ FrsAt K H gs fs ∧ SetOk fs ∧
  ∀ H' gs', Imm H H' → Holds H' (hC K hl gs' (settle fs) ++ (m, mO' K dx v1 v2 v3 hs v5 v6 v7) :: R) → FrsAt K H' gs' (settle fs) → Q .non H'
abbrev n_m_Machine_settle : List Str := ["self", "me", "frames", "frame"]
def t_m_Machine_settle (K : PySem.W.Frag) (w : World)  : TS :=
 (tSeq (tAsg (tOp (rIxL K) (xfMachine_hands K (tVar 0)) (tVar 1)) (gName 2))
 (tWhile (tTest (tOp (rEqNil K true) (tVar 2) (tLst tNil))) (tSeq (tAsg (tOp (rIxL K) (tVar 2) (tUn (rU fun i => .int (-i)) (tC (.int 1)))) (gName 3))
 (tIfS (tTest (tOp (rEqNil K false) (xfFrame_todo K (tVar 3)) (tLst tNil))) (tDrop (tMeth (He.ga K "Machine") "back" (sp_Machine_back K w) [] E0 (tVar 0) (tCons (tVar 2) (tCons (tC (.int 0)) tNil)))) (tIfS (tTest (tOp rEq (tOp (rIxT K) (tOp (rIxL K) (xfFrame_todo K (tVar 3)) (tUn (rU fun i => .int (-i)) (tC (.int 1)))) (tC (.int 0))) (tC (.str "deed")))) tRetN (tDrop (tMeth (He.ga K "Machine") "unfold" (sp_Machine_unfold K w) [] E0 (tVar 0) (tCons (tVar 3) (tCons (tBM0 K "list" rPop (xfFrame_todo K (tVar 3))) tNil)))))))))
theorem pu_m_Machine_settle {K : PySem.W.Frag} {w : World} (vs : List V) (H : Hp) (Q : VK) (E : XK) (h : sp_Machine_settle K w vs H Q E) : t_m_Machine_settle K w { nx := fun _ H' => Q .non H', rt := Q } (start n_m_Machine_settle vs) H := by
  obtain ⟨m, dx, hs, hl, v1, v2, v3, v5, v6, v7, hvs, me, gs, fs, R, rfl, hH, hsq, hat, hF, hok, q⟩ := h
  have hm : H m = some (mO' K dx v1 v2 v3 hs v5 v6 v7) := hH.get (List.mem_append_right _ (List.mem_cons_self ..))
  refine ⟨_, rfl, m, dx, _, _, _, _, _, _, _, rfl, hm, _, rfl, hs, _, _, _, rfl, rfl, hsq.l, atI_nat hat, ?_⟩
  refine ⟨fun n σ H1 => ∃ gs1 fs1 x3, n = wtF fs1 ∧ σ = [some (.ref m), some (.int (me : Nat)), some (.ref hl), x3] ∧ Imm H H1 ∧ Holds H1 (hC K hl gs1 fs1 ++ (m, mO' K dx v1 v2 v3 hs v5 v6 v7) :: R) ∧ FrsAt K H1 gs1 fs1 ∧ SetOk fs1 ∧ settle fs1 = settle fs,
    ⟨_, gs, fs, _, rfl, rfl, .refl _, hH, hF, hok, rfl⟩, ?_⟩
  rintro n σ H1 ⟨gs1, fs1, x3, rfl, rfl, i1, h1, F1, ok1, es⟩
  refine ⟨_, rfl, Nat.zero_le _, fun p hp => ?_⟩
  have h2 := h1.skip (o := .lst []) hp
  have i2 := i1.trans (Imm.new (o := .lst []) hp)
  have F2 := F1.mono (Imm.new (o := .lst []) hp)
  refine ⟨hl, p, _, rfl, rfl, SqL.of h2.head, SqL.of upd_same, _, rfl, ?_⟩
  generalize upd H1 p (.lst []) = H2 at h2 i2 F2
  cases fs1 with
  | nil =>
    have hg : gs1 = [] := List.eq_nil_of_length_eq_zero F2.len
    subst hg
    refine iteF ?_
    have e0 : settle fs = [] := by rw [← es]; rfl
    refine q H2 [] i2 ?_ ?_
    · rw [e0]; exact h2
    · rw [e0]; trivial
  | cons f r =>
    cases gs1 with
    | nil => exact F2.elim
    | cons g gs2 =>
      have hlc := hlV_cons g gs2
      have h2 : Holds H2 ((hl, .lst (hlV gs2 ++ [.ref g.x])) :: (frsC K (g :: gs2) (f :: r) ++ (m, mO' K dx v1 v2 v3 hs v5 v6 v7) :: R)) := by rw [← hlc]; exact h2
      rw [show (if true = true then !(hlV (g :: gs2)).isEmpty else (hlV (g :: gs2)).isEmpty) = true by rw [hlc]; simp]
      refine iteT ⟨fun σ' H' => ∃ gs' fs' x3, wtF fs' < wtF (f :: r) ∧ σ' = [some (.ref m), some (.int (me : Nat)), some (.ref hl), x3] ∧ Imm H H' ∧ Holds H' (hC K hl gs' fs' ++ (m, mO' K dx v1 v2 v3 hs v5 v6 v7) :: R) ∧ FrsAt K H' gs' fs' ∧ SetOk fs' ∧ settle fs' = settle fs, fun σ' H' ⟨gs', fs', x, a1, a2, a3, a4, a5, a6, a7⟩ => ⟨_, a1, gs', fs', x, rfl, a2, a3, a4, a5, a6, a7⟩, ?_⟩
      refine ⟨_, rfl, 1, rfl, hl, _, -1, _, rfl, rfl, SqL.of h2.head, atI_last _ _, ?_⟩
      refine ⟨_, rfl, g.x, g.dx, _, _, _, _, rfl, h2.tail.head, Nat.zero_le _, fun p2 hp2 => ?_⟩
      have h3 := h2.skip (o := .lst []) hp2
      have i3 := i2.trans (Imm.new (o := .lst []) hp2)
      have F3 := F2.mono (Imm.new (o := .lst []) hp2)
      refine ⟨g.ta, p2, _, rfl, rfl, SqL.of h3.tail.tail.tail.head, SqL.of upd_same, _, rfl, ?_⟩
      generalize upd H2 p2 (.lst []) = H3 at h3 i3 F3
      have hm3 : H3 m = some (mO' K dx v1 v2 v3 hs v5 v6 v7) := h3.get (List.mem_cons_of_mem _ (List.mem_append_right _ (List.mem_cons_self ..)))
      have htl := F3.1.len
      rw [List.length_reverse] at htl
      have okS : SetOk (f :: r) := ok1
      obtain ⟨k1, k2, k3⟩ := ok1
      cases ht : f.todo with
      | nil =>
        have e0 : g.tv = [] := by rw [ht] at htl; exact List.eq_nil_of_length_eq_zero htl
        rw [e0]
        refine iteT ?_
        refine ⟨_, rfl, m, dx, _, rfl, hm3, nmMachine_back, _, rfl, ?_⟩
        refine ⟨.ref m, hl, g, gs2, f, r, 0, (m, mO' K dx v1 v2 v3 hs v5 v6 v7) :: R, rfl, ?_, F3, fun f2 r2 e => ?_, fun H4 gs' i4 h4 F4 => ?_⟩
        · show Holds H3 ((hl, .lst (hlV (g :: gs2))) :: _)
          rw [hlc]; exact h3
        · obtain ⟨_, k, rest, e1, e2, _⟩ := k3 f2 (by rw [e]; exact List.mem_cons_self ..)
          exact ⟨k, rest, e1, e2⟩
        · have e1 : settle1 (f :: r) = some (backF 0 r) := by simp only [settle1, ht]
          exact ⟨gs', _, _, wt_back 0, rfl, i3.trans i4, h4, F4, SetOk.back 0 okS, by rw [← es]; exact (settle_some okS e1).symm⟩
      | cons t ts =>
        have F3' := F3
        obtain ⟨ft, F3r⟩ := F3
        rw [ht] at ft k1 k2
        obtain ⟨tkv, s, es2, htk, hrest⟩ := ft
        have etv := rev_cons es2
        rw [show (if false = true then !g.tv.isEmpty else g.tv.isEmpty) = false by rw [etv]; simp]
        refine iteF ?_
        have ni : ∀ k, t ≠ .into k := k2 t (List.mem_cons_self ..)
        have h3' : Holds H3 ((hl, .lst (hlV gs2 ++ [.ref g.x])) :: (g.x, frO K g f) :: (g.na, .lst (f.names.map V.int)) :: (g.ta, .lst (s.reverse ++ [tkv])) :: (frsC K gs2 r ++ (m, mO' K dx v1 v2 v3 hs v5 v6 v7) :: R)) := by rw [← etv]; exact h3
        refine ⟨_, rfl, g.x, g.dx, _, _, _, _, rfl, h3'.tail.head, 1, rfl, g.ta, _, -1, _, rfl, rfl, SqL.of h3'.tail.tail.tail.head, atI_last _ _, ?_⟩
        have go : ∀ tk, tkv = .ref tk → (∀ d, t ≠ .deed d) →
            tDrop (tMeth (He.ga K "Machine") "unfold" (sp_Machine_unfold K w) [] E0 (tVar 0) (tCons (tVar 3) (tCons (tBM0 K "list" rPop (xfFrame_todo K (tVar 3))) tNil)))
              { nx := fun σ' H' => ∃ gs' fs' x3, wtF fs' < wtF (f :: r) ∧ σ' = [some (.ref m), some (.int (me : Nat)), some (.ref hl), x3] ∧ Imm H H' ∧ Holds H' (hC K hl gs' fs' ++ (m, mO' K dx v1 v2 v3 hs v5 v6 v7) :: R) ∧ FrsAt K H' gs' fs' ∧ SetOk fs' ∧ settle fs' = settle fs, rt := Q }
              [some (.ref m), some (.int (me : Nat)), some (.ref hl), some (.ref g.x)] H3 := by
          intro tk etk nd
          subst etk
          refine ⟨_, rfl, m, dx, _, rfl, hm3, nmMachine_unfold, _, rfl, _, rfl, g.x, g.dx, _, _, _, _, rfl, h3'.tail.head, tyL h3'.tail.tail.tail.head, g.ta, _, .ref tk, rfl, rfl, h3'.tail.tail.tail.head, last_get _ _, ?_⟩
          rw [List.dropLast_concat]
          have h4 := h3'.set 3 (o' := .lst s.reverse) rfl
          have i4 : Imm H3 (upd H3 g.ta (.lst s.reverse)) := Imm.upd h3'.tail.tail.tail.head rfl
          have h4' : Holds _ ((hl, .lst (hlV gs2 ++ [.ref g.x])) :: (g.x, frO K g f) :: (g.na, .lst (f.names.map V.int)) :: (g.ta, .lst s.reverse) :: (frsC K gs2 r ++ (m, mO' K dx v1 v2 v3 hs v5 v6 v7) :: R)) := h4
          refine ⟨.ref m, { g with tv := s.reverse }, { f with todo := ts }, t, tk, (hl, .lst (hlV gs2 ++ [.ref g.x])) :: (frsC K gs2 r ++ (m, mO' K dx v1 v2 v3 hs v5 v6 v7) :: R), rfl, ?_, ?_, htk.mono i4, k1, ni, nd, fun H5 tv' i5 h5 T5 => ?_⟩
          · exact ((h4'.pull 3 rfl).pull 3 rfl).pull 3 rfl
          · show TsAt K _ ts s.reverse.reverse
            rw [List.reverse_reverse]; exact hrest.mono i4
          · have e1 : settle1 (f :: r) = some ({ f with todo := unfoldT t ts } :: r) := by
              cases t with
              | deed d => exact absurd rfl (nd d)
              | into k => exact absurd rfl (ni k)
              | _ => simp only [settle1, ht]
            have hst := settle1_step okS e1
            refine ⟨{ g with tv := tv' } :: gs2, _, _, hst.2, rfl, i3.trans (i4.trans i5), ?_, ⟨T5, F3r.mono (i4.trans i5)⟩, hst.1, by rw [← es]; exact (settle_some okS e1).symm⟩
            show Holds H5 ((hl, .lst (hlV ({ g with tv := tv' } :: gs2))) :: (frsC K ({ g with tv := tv' } :: gs2) _ ++ _))
            rw [hlV_cons]
            exact h5.pull 3 rfl
        cases t with
        | into k => exact absurd rfl (ni k)
        | deed d =>
          obtain ⟨tk, vd, rfl, h5, h6⟩ := htk
          refine ⟨tk, _, 0, _, rfl, rfl, h5, rfl, rfl, _, rfl, iteT ?_⟩
          have e1 : settle1 (f :: r) = none := by simp only [settle1, ht]
          have e2 : settle fs = f :: r := by rw [← es]; exact settle_none e1
          refine q H3 (g :: gs2) i3 ?_ ?_
          · rw [e2]
            show Holds H3 ((hl, .lst (hlV (g :: gs2))) :: _)
            rw [hlc]; exact h3
          · rw [e2]; exact F3'
        | body b =>
          obtain ⟨tk, vd, rfl, h5, h6⟩ := htk
          refine ⟨tk, _, 0, _, rfl, rfl, h5, rfl, rfl, _, rfl, iteF ?_⟩
          exact go tk rfl (by simp)
        | loop n b =>
          obtain ⟨tk, vd, rfl, h5, h6⟩ := htk
          refine ⟨tk, _, 0, _, rfl, rfl, h5, rfl, rfl, _, rfl, iteF ?_⟩
          exact go tk rfl (by simp)
end SD
set_option Elab.async false
set_option linter.all false
set_option maxRecDepth 100000
set_option maxHeartbeats 4000000
namespace SD
open PySem PySem.Spec PyProof.Rows L2
/-! ### the machine in the heap -/
structure MG where
  m : Addr
  dx : Addr
  bd : Addr
  hd : Addr
  he : Addr
  hs : Addr
  ta : Addr
  bv : List V
  hv : List V
  hls : List (Addr × List FG)
  tv : List V
def MG.hsv (g : MG) : List V := g.hls.map fun x => V.ref x.1
abbrev mOw (K : PySem.W.Frag) (g : MG) (wh dn : Nat) : HO := mO' K g.dx (.ref g.bd) (.ref g.hd) (.ref g.he) g.hs (.int (wh : Nat)) (.ref g.ta) (.int (dn : Nat))
def handsC (K : PySem.W.Frag) : List (Addr × List FG) → List (List Fr) → List (Addr × HO)
  | x :: r, fs :: s => hC K x.1 x.2 fs ++ handsC K r s
  | _, _ => []
def HsAt (K : PySem.W.Frag) (H : Hp) : List (Addr × List FG) → List (List Fr) → Prop
  | [], [] => True
  | x :: r, fs :: s => FrsAt K H x.2 fs ∧ HsAt K H r s
  | _, _ => False
def TalkAt (K : PySem.W.Frag) (H : Hp) : List (Nat × Int) → List V → Prop
  | [], vs => vs = []
  | x :: r, vs => ∃ a s, vs = .ref a :: s ∧ SqT K H a [.int (x.1 : Nat), .int x.2] ∧ TalkAt K H r s
abbrev mC (K : PySem.W.Frag) (g : MG) (M : Mach) : List (Addr × HO) := (g.m, mOw K g M.whose M.done) :: (g.he, .lst (M.held.map V.int)) :: (g.ta, .lst g.tv) :: handsC K g.hls M.hands
structure MAt (K : PySem.W.Frag) (H : Hp) (g : MG) (M : Mach) : Prop where
  bf : SqF K H g.bd g.bv
  b : NBsAt K H M.bodies g.bv
  hf : SqF K H g.hd g.hv
  h : HdsAt K H M.heads g.hv
  sf : SqF K H g.hs g.hsv
  s : HsAt K H g.hls M.hands
  t : TalkAt K H M.talk g.tv
section
variable {K : PySem.W.Frag} {H H' : Hp}
theorem HsAt.mono (i : Imm H H') : ∀ {gs : List (Addr × List FG)} {fs : List (List Fr)}, HsAt K H gs fs → HsAt K H' gs fs
  | [], [], h => h
  | g :: gs, f :: fs, ⟨h1, h2⟩ => ⟨h1.mono i, HsAt.mono i h2⟩
  | [], _ :: _, h => h.elim
  | _ :: _, [], h => h.elim
theorem TalkAt.mono (i : Imm H H') : ∀ {t : List (Nat × Int)} {v : List V}, TalkAt K H t v → TalkAt K H' t v
  | [], v, h => h
  | t :: r, v, ⟨a, s, e, h, h1⟩ => ⟨a, s, e, i.t h, TalkAt.mono i h1⟩
theorem TalkAt.app : ∀ {p q : List (Nat × Int)} {v u : List V}, TalkAt K H p v → TalkAt K H q u → TalkAt K H (p ++ q) (v ++ u)
  | [], q, v, u, h, h2 => by rw [show v = [] from h]; exact h2
  | p :: r, q, v, u, ⟨a, t, e, h, h1⟩, h2 => ⟨a, t ++ u, by rw [e]; rfl, h, TalkAt.app h1 h2⟩
theorem TalkAt.len : ∀ {p : List (Nat × Int)} {v : List V}, TalkAt K H p v → v.length = p.length
  | [], v, h => by rw [show v = [] from h]; rfl
  | p :: r, v, ⟨a, t, e, h, h1⟩ => by rw [e, List.length_cons, List.length_cons, TalkAt.len h1]
theorem MAt.mono (i : Imm H H') {g : MG} {M : Mach} (h : MAt K H g M) : MAt K H' g M := ⟨i.f h.bf, h.b.mono i, i.f h.hf, h.h.mono i, i.f h.sf, h.s.mono i, h.t.mono i⟩
theorem HsAt.len : ∀ {gs : List (Addr × List FG)} {fs : List (List Fr)}, HsAt K H gs fs → gs.length = fs.length
  | [], [], h => rfl
  | g :: gs, f :: fs, ⟨h1, h2⟩ => by rw [List.length_cons, List.length_cons, HsAt.len h2]
  | [], _ :: _, h => h.elim
  | _ :: _, [], h => h.elim
/-- one hand taken out -/
theorem hands_split : ∀ {hls : List (Addr × List FG)} {hands : List (List Fr)} {k : Nat} {fs : List Fr}, HsAt K H hls hands → hands[k]? = some fs → ∃ hl gs Rest, hls[k]? = some (hl, gs) ∧ FrsAt K H gs fs ∧
    (handsC K hls hands).Perm (hC K hl gs fs ++ Rest) ∧ (∀ gs' fs', (handsC K (hls.set k (hl, gs')) (hands.set k fs')).Perm (hC K hl gs' fs' ++ Rest)) ∧ ∀ H' gs' fs', Imm H H' → FrsAt K H' gs' fs' → HsAt K H' (hls.set k (hl, gs')) (hands.set k fs')
  | [], [], k, fs, h, e => by simp at e
  | x :: r, f :: s, 0, fs, ⟨h1, h2⟩, e => by
    simp at e; subst e
    exact ⟨x.1, x.2, handsC K r s, rfl, h1, .refl _, fun gs' fs' => .refl _, fun H' gs' fs' i h => ⟨h, h2.mono i⟩⟩
  | x :: r, f :: s, k + 1, fs, ⟨h1, h2⟩, e => by
    obtain ⟨hl, gs, Rest, a1, a2, a3, a4, a5⟩ := hands_split (k := k) h2 (by simpa using e)
    refine ⟨hl, gs, hC K x.1 x.2 f ++ Rest, by simpa using a1, a2, ?_, fun gs' fs' => ?_, fun H' gs' fs' i h => ⟨h1.mono i, a5 H' gs' fs' i h⟩⟩
    · refine (List.Perm.append_left _ a3).trans ?_
      rw [← List.append_assoc, ← List.append_assoc]
      exact List.Perm.append_right _ List.perm_append_comm
    · refine (List.Perm.append_left (hC K x.1 x.2 f) (a4 gs' fs')).trans ?_
      rw [← List.append_assoc, ← List.append_assoc]
      exact List.Perm.append_right _ List.perm_append_comm
  | [], _ :: _, _, _, h, _ => h.elim
  | _ :: _, [], _, _, h, _ => h.elim
theorem hlV_len (gs : List FG) : (hlV gs).length = gs.length := by simp [hlV]
theorem isEmpty_len {α β : Type} {xs : List α} {ys : List β} (h : xs.length = ys.length) : xs.isEmpty = ys.isEmpty := by
  cases xs <;> cases ys <;> simp_all
theorem hands_get {hls : List (Addr × List FG)} {hands : List (List Fr)} {k : Nat} {fs : List Fr} {R : List (Addr × HO)} (h : HsAt K H hls hands) (e : hands[k]? = some fs) (hH : Holds H (handsC K hls hands ++ R)) :
    ∃ hl gs, (hls.map fun x => V.ref x.1)[k]? = some (.ref hl) ∧ FrsAt K H gs fs ∧ H hl = some (.lst (hlV gs)) ∧ (hlV gs).isEmpty = fs.isEmpty := by
  obtain ⟨hl, gs, Rest, a1, a2, a3, _⟩ := hands_split h e
  have h2 := (hH.perm (List.Perm.append_right R a3)).head
  exact ⟨hl, gs, by rw [List.getElem?_map, a1]; rfl, a2, h2, isEmpty_len (by rw [hlV_len]; exact a2.len)⟩
end
theorem seekN_succ (n : Nat) (hs : List (List Fr)) (w : Nat) : seekN (n + 1) hs w = seekN n hs (if (hs.getD w []).isEmpty then (w + 1) % hs.length else w) := rfl
theorem seekN_lt : ∀ (n : Nat) {hs : List (List Fr)} {w : Nat}, w < hs.length → seekN n hs w < hs.length
  | 0, hs, w, h => h
  | n + 1, hs, w, h => by
    rw [seekN_succ]
    refine seekN_lt n ?_
    split
    · exact Nat.mod_lt _ (by omega)
    · exact h
/-! ### Machine.seek -/
def sp_Machine_seek (K : PySem.W.Frag) (w : World) : Sp := fun vs H Q _ => ∃ (g : MG) (M : Mach) (R : List (Addr × HO)), vs = [.ref g.m] ∧ Holds H (mC K g M ++ R) ∧ MAt K H g M ∧ M.whose < M.hands.length ∧ M.hands.length ≤ 3 ∧
  ∀ H', Imm H H' → Holds H' (mC K g { M with whose := seek M.hands M.whose } ++ R) → Q .non H'
abbrev n_m_Machine_seek : List Str := ["self", "turn"]
def t_m_Machine_seek (K : PySem.W.Frag) (w : World)  : TS :=
 (tFor (iRng1 (tCons (tCB (rLenS' K) (tCons (xfMachine_hands K (tVar 0)) tNil)) tNil)) (gName 1) (tIfS (tTest (tOp (rEqNil K false) (tOp (rIxL K) (xfMachine_hands K (tVar 0)) (xfMachine_whose K (tVar 0))) (tLst tNil))) (xsMachine_whose K (tVar 0) (tOp (rI (fun _ j => 0 < j) fun i j => .int (i % j)) (tOp (rI0 fun i j => .int (i + j)) (xfMachine_whose K (tVar 0)) (tC (.int 1))) (tCB (rLenS' K) (tCons (xfMachine_hands K (tVar 0)) tNil)))) tNext))
theorem pu_m_Machine_seek {K : PySem.W.Frag} {w : World} (vs : List V) (H : Hp) (Q : VK) (E : XK) (h : sp_Machine_seek K w vs H Q E) : t_m_Machine_seek K w { nx := fun _ H' => Q .non H', rt := Q } (start n_m_Machine_seek vs) H := by
  obtain ⟨g, M, R, rfl, hH, hA, hw, h3, q⟩ := h
  have hsl : g.hsv.length = M.hands.length := by rw [MG.hsv, List.length_map]; exact hA.s.len
  refine ⟨_, rfl, g.m, g.dx, _, _, _, _, _, _, _, rfl, hH.head, _, _, rfl, .inl hA.sf.l, _, rfl, by omega, by omega, ?_⟩
  rw [show ((g.hsv.length : Nat) : Int).toNat = M.hands.length by rw [hsl]; rfl]
  refine for_it walk_range (fun i σ H1 => ∃ w1 x, σ = [some (.ref g.m), x] ∧ Imm H H1 ∧ Holds H1 (mC K g { M with whose := w1 } ++ R) ∧ w1 < M.hands.length ∧ seekN (M.hands.length - i) M.hands w1 = seek M.hands M.whose)
    ⟨M.whose, _, rfl, .refl _, hH, hw, rfl⟩ (fun _ _ _ _ _ => trivial) (fun i σ H1 x H2 hlt hP hY => ?_) fun σ H1 hP => ?_
  · obtain ⟨w1, x1, rfl, i1, h1, hw1, e1⟩ := hP
    obtain ⟨rfl, rfl⟩ := hY
    have hA1 := hA.mono i1
    obtain ⟨fs, efs⟩ : ∃ fs, M.hands[w1]? = some fs := ⟨_, List.getElem?_eq_getElem hw1⟩
    obtain ⟨hl, gs, e2, F1, hhl, em⟩ := hands_get hA1.s efs (h1.tail.tail.tail)
    have hm := h1.head
    refine ⟨_, rfl, g.m, g.dx, _, _, _, _, _, _, _, rfl, hm, _, rfl, g.m, g.dx, _, _, _, _, _, _, _, rfl, hm, g.hs, _, _, _, rfl, rfl, hA1.sf.l, atI_nat e2, Nat.zero_le _, fun p hp => ?_⟩
    have h2 := h1.skip (o := .lst []) hp
    have i2 := i1.trans (Imm.new (o := .lst []) hp)
    refine ⟨hl, p, _, rfl, rfl, SqL.of (by rw [upd_ne (fun e => by rw [← e, hhl] at hp; cases hp)]; exact hhl), SqL.of upd_same, _, rfl, ?_⟩
    rw [em]
    have hn : M.hands.length - i = (M.hands.length - (i + 1)) + 1 := by omega
    rw [hn, seekN_succ, List.getD_eq_getElem?_getD, efs] at e1
    have e1 : seekN (M.hands.length - (i + 1)) M.hands (if fs.isEmpty = true then (w1 + 1) % M.hands.length else w1) = seek M.hands M.whose := e1
    have hA2 := hA.mono i2
    generalize upd H2 p (.lst []) = H3 at h2 i2 hA2
    rw [show (if false = true then !fs.isEmpty else fs.isEmpty) = fs.isEmpty from rfl]
    cases ef : fs.isEmpty with
    | false =>
      rw [ef] at e1
      refine iteF ?_
      exact ⟨w1, _, rfl, i2, h2, hw1, e1⟩
    | true =>
      rw [ef] at e1
      refine iteT ?_
      refine ⟨_, rfl, g.m, g.dx, _, _, _, _, _, _, _, rfl, h2.head, _, _, rfl, rfl, _, rfl, g.m, g.dx, _, _, _, _, _, _, _, rfl, h2.head, _, _, rfl, .inl hA2.sf.l, _, _, rfl, rfl, by rw [hsl]; omega, ?_⟩
      refine ⟨_, rfl, g.m, g.dx, _, _, _, _, _, _, _, rfl, h2.head, ?_⟩
      rw [hsl]
      have h3 := h2.upd (o' := mOw K g ((w1 + 1) % M.hands.length) M.done)
      refine ⟨(w1 + 1) % M.hands.length, _, rfl, i2.trans (h2.imm rfl), ?_, Nat.mod_lt _ (by omega), e1⟩
      exact h3
  · obtain ⟨w1, x1, rfl, i1, h1, hw1, e1⟩ := hP
    rw [Nat.sub_self] at e1
    have e1 : w1 = seek M.hands M.whose := e1
    rw [e1] at h1
    exact q H1 i1 h1
theorem same_at {H H' : Hp} {D : Addr} {o : HO} (s : Same H H') (h : H D = none) : Same H (upd H' D o) := fun a u e => by
  have hne : a ≠ D := fun e2 => by rw [e2, h] at e; cases e
  rw [upd_ne hne]; exact s a u e
/-! ### Machine.is_over -/
def sp_Machine_is_over (K : PySem.W.Frag) (w : World) : Sp := fun vs H Q _ => ∃ (g : MG) (M : Mach) (R : List (Addr × HO)), vs = [.ref g.m] ∧ Holds H (mC K g M ++ R) ∧ MAt K H g M ∧ M.hands.length ≤ 3 ∧
  ∀ H', Same H H' → Q (.bl M.isOver) H'
theorem take_snoc {α : Type} {xs : List α} {i : Nat} {x : α} (e : xs[i]? = some x) : xs.take (i + 1) = xs.take i ++ [x] := by rw [List.take_add_one, e]; rfl
abbrev n_m_Machine_is_over : List Str := ["self", "frames"]
def t_m_Machine_is_over (K : PySem.W.Frag) (w : World)  : TS :=
 (tRet (tOp (rEqNil K false) (tLc (iList K (xfMachine_hands K (tVar 0))) (gName 1) (tTest (tOp (rEqNil K true) (tVar 1) (tLst tNil))) (tVar 1) [1]) (tLst tNil)))
theorem pu_m_Machine_is_over {K : PySem.W.Frag} {w : World} (vs : List V) (H : Hp) (Q : VK) (E : XK) (h : sp_Machine_is_over K w vs H Q E) : t_m_Machine_is_over K w { nx := fun _ H' => Q .non H', rt := Q } (start n_m_Machine_is_over vs) H := by
  obtain ⟨g, M, R, rfl, hH, hA, h3, q⟩ := h
  have hsl : g.hsv.length = M.hands.length := by rw [MG.hsv, List.length_map]; exact hA.s.len
  refine ⟨_, rfl, g.m, g.dx, _, _, _, _, _, _, _, rfl, hH.head, g.hs, rfl, ⟨_, hA.sf.l⟩, fun D hD => ?_⟩
  refine lc_it (walk_list (xs := g.hsv)) (fun i H2 => ∃ zs, Imm H H2 ∧ Same H H2 ∧ Holds H2 ((D, .lst zs) :: (mC K g M ++ R)) ∧ zs.length ≤ i ∧ zs.isEmpty = (M.hands.take i).all (·.isEmpty))
    ⟨[], .new hD, same_new hD _, hH.new hD, Nat.le_refl _, rfl⟩ (fun i H2 _ ⟨_, im, _⟩ => (im.f hA.sf).l) (fun i u H2 H3 hlt hP hY => ?_) fun H2 hP => ?_
  · obtain ⟨zs, i2, s2, h2, hz, ez⟩ := hP
    have hD2 := h2.head
    obtain ⟨rfl, hu⟩ := hY
    have hA2 := hA.mono i2
    rw [hsl] at hlt
    obtain ⟨fs, efs⟩ : ∃ fs, M.hands[i]? = some fs := ⟨_, List.getElem?_eq_getElem hlt⟩
    obtain ⟨hl, gs, e2, F1, hhl, em⟩ := hands_get hA2.s efs (h2.tail.tail.tail.tail)
    have eu : u = .ref hl := Option.some.inj (hu.symm.trans e2)
    subst eu
    refine ⟨rfl, _, rfl, Nat.zero_le _, fun p hp => ?_⟩
    refine ⟨hl, p, _, rfl, rfl, SqL.of (by rw [upd_ne (fun e => by rw [← e, hhl] at hp; cases hp)]; exact hhl), SqL.of upd_same, _, rfl, ?_⟩
    have h4 := h2.skip (o := .lst []) hp
    have s4 := s2.trans (same_new hp (.lst []))
    have i4 := i2.trans (Imm.new (o := .lst []) hp)
    have hD4 : upd H3 p (.lst []) D = some (.lst zs) := by rw [upd_ne (fun e => by rw [← e, hD2] at hp; cases hp)]; exact hD2
    rw [em, show (if true = true then !fs.isEmpty else fs.isEmpty) = !fs.isEmpty from rfl]
    have et : (M.hands.take (i + 1)).all (·.isEmpty) = (zs.isEmpty && fs.isEmpty) := by rw [take_snoc efs, List.all_append, ez]; simp
    cases ef : fs.isEmpty with
    | true =>
      refine iteF ?_
      exact ⟨zs, i4, s4, h4, by omega, by rw [et, ef, Bool.and_true]⟩
    | false =>
      refine iteT ?_
      refine ⟨_, rfl, zs, hD4, small_sz (by omega), zs ++ [.ref hl], i4.trans (h4.imm rfl), same_at s4 hD, h4.upd, ?_, ?_⟩
      · rw [List.length_append]; simp only [List.length_singleton]; omega
      · rw [et, ef, Bool.and_false]; simp
  · obtain ⟨zs, i2, s2, h2, hz, ez⟩ := hP
    have hD2 := h2.head
    refine ⟨Nat.zero_le _, fun p hp => ?_⟩
    refine ⟨D, p, _, rfl, rfl, SqL.of (by rw [upd_ne (fun e => by rw [← e, hD2] at hp; cases hp)]; exact hD2), SqL.of upd_same, ?_⟩
    rw [hsl, List.take_length] at ez
    rw [show (if false = true then !zs.isEmpty else zs.isEmpty) = zs.isEmpty from rfl, ez]
    exact q _ (s2.trans (same_new hp _))
end SD
set_option Elab.async false
set_option linter.all false
set_option maxRecDepth 100000
set_option maxHeartbeats 4000000
namespace SD
/-! ### what holds of a machine at all times, plainly -/
theorem NsOk2.get {names cells : Nat} {prm : List Nat} {P : Nat → Prop} : ∀ {i : List (List ND)} {k : Nat}, NsOk2 names cells prm P i → NsOk names cells prm P (i.getD k [])
  | [], k, h => by simp [NsOk]
  | b :: r, 0, h => h.1
  | b :: r, k + 1, h => by simpa using NsOk2.get (i := r) (k := k) h.2
theorem NsOk.get {names cells : Nat} {prm : List Nat} {P : Nat → Prop} : ∀ {b : List ND} {d : ND}, NsOk names cells prm P b → d ∈ b → NOk names cells prm P d
  | x :: r, d, h, m => by
    rcases List.mem_cons.mp m with e | e
    · rw [e]; exact h.1
    · exact NsOk.get h.2 e
/-- of a frame -/
structure FrOk (heads : List (Nat × Nat)) (cells : Nat) (pf : List Nat) (f : Fr) : Prop where
  hd : ∃ h, heads[f.fn]? = some h ∧ f.names.length = h.2
  rn : Rng f.names
  ts : ∀ t ∈ f.todo, (∃ k, t = .into k) ∨ TOk f.names.length cells (heads.map Prod.fst) (fun p => pf[p]? = some f.fn) t
def FrsOk (heads : List (Nat × Nat)) (cells : Nat) (pf : List Nat) (fs : List Fr) : Prop := ∀ f ∈ fs, FrOk heads cells pf f
section
variable {heads : List (Nat × Nat)} {cells : Nat} {pf : List Nat}
theorem FrOk.unfold {f : Fr} {t : Task} {ts : List Task} (h : FrOk heads cells pf f) (e : f.todo = t :: ts) (ni : ∀ k, t ≠ .into k) : FrOk heads cells pf { f with todo := unfoldT t ts } := by
  have ht : TOk f.names.length cells (heads.map Prod.fst) (fun p => pf[p]? = some f.fn) t := by
    rcases h.ts t (by rw [e]; exact List.mem_cons_self ..) with ⟨k, q⟩ | q
    · exact absurd q (ni k)
    · exact q
  have hr : ∀ x ∈ ts, (∃ k, x = .into k) ∨ TOk f.names.length cells (heads.map Prod.fst) (fun p => pf[p]? = some f.fn) x := fun x hx => h.ts x (by rw [e]; exact List.mem_cons_of_mem _ hx)
  refine ⟨h.hd, h.rn, fun x hx => ?_⟩
  have hx : x ∈ unfoldT t ts := hx
  cases t with
  | into k => exact absurd rfl (ni k)
  | deed d => exact h.ts x (by rw [e]; exact hx)
  | body b =>
    rcases List.mem_append.mp hx with q | q
    · obtain ⟨d, m, rfl⟩ := List.mem_map.mp q
      exact .inr (NsOk.get ht m)
    · exact hr x q
  | loop n b =>
    cases n with
    | zero => exact hr x hx
    | succ n =>
      rcases List.mem_cons.mp hx with q | q
      · rw [q]; exact .inr ht.2
      rcases List.mem_cons.mp q with q | q
      · rw [q]; exact .inr ⟨by have := ht.1; omega, ht.2⟩
      · exact hr x q
theorem rng_set {ns : List Int} {k : Nat} {v : Int} (h : Rng ns) (hv : Sm v) : Rng (ns.set k v) := fun x hx => by
  rcases List.mem_or_eq_of_mem_set hx with q | q
  · exact h x q
  · rw [q]; exact hv
theorem FrsOk.back {fs : List Fr} {v : Int} (h : FrsOk heads cells pf fs) (hv : Sm v) : FrsOk heads cells pf (backF v fs) := by
  cases fs with
  | nil => exact h
  | cons f r =>
    have hf := h f (List.mem_cons_self ..)
    simp only [backF]
    split
    · rename_i k t e
      intro g hg
      rcases List.mem_cons.mp hg with q | q
      · rw [q]
        refine ⟨?_, rng_set hf.rn hv, fun x hx => ?_⟩
        · obtain ⟨h1, h2, h3⟩ := hf.hd
          exact ⟨h1, h2, by show (f.names.set k v).length = _; rw [List.length_set]; exact h3⟩
        · have := hf.ts x (by rw [e]; exact List.mem_cons_of_mem _ hx)
          show _ ∨ TOk (f.names.set k v).length _ _ _ _
          rw [List.length_set]; exact this
      · exact h g (List.mem_cons_of_mem _ q)
    · exact h
theorem sm0 : Sm 0 := by simp [Sm, REST]
theorem FrsOk.step {fs fs' : List Fr} (h : FrsOk heads cells pf fs) (ok : SetOk fs) (e : settle1 fs = some fs') : FrsOk heads cells pf fs' ∧ fs'.length ≤ fs.length := by
  cases fs with
  | nil => cases e
  | cons f r =>
    have hr : FrsOk heads cells pf r := fun g hg => h g (List.mem_cons_of_mem _ hg)
    cases ht : f.todo with
    | nil =>
      simp only [settle1, ht] at e
      cases e
      refine ⟨hr.back sm0, ?_⟩
      cases r with
      | nil => simp [backF]
      | cons g s => simp only [backF]; split <;> simp
    | cons t ts =>
      simp only [settle1, ht] at e
      have ni : ∀ k, t ≠ .into k := ok.2.1 t (by rw [ht]; exact List.mem_cons_self ..)
      have key : ∀ {gs}, gs = ({ f with todo := unfoldT t ts } :: r) → FrsOk heads cells pf gs ∧ gs.length ≤ (f :: r).length := by
        rintro gs rfl
        refine ⟨fun g hg => ?_, Nat.le_refl _⟩
        rcases List.mem_cons.mp hg with q | q
        · rw [q]; exact (h f (List.mem_cons_self ..)).unfold ht ni
        · exact hr g q
      cases t with
      | deed d => cases e
      | into k => exact absurd rfl (ni k)
      | body b => exact key (Option.some.inj e).symm
      | loop n b => exact key (Option.some.inj e).symm
theorem settleN_frs : ∀ (n : Nat) (fs : List Fr), SetOk fs → FrsOk heads cells pf fs → FrsOk heads cells pf (settleN n fs) ∧ (settleN n fs).length ≤ fs.length
  | 0, fs, ok, h => ⟨h, Nat.le_refl _⟩
  | n + 1, fs, ok, h => by
    cases e : settle1 fs with
    | none => simp only [settleN, e]; exact ⟨h, Nat.le_refl _⟩
    | some fs' =>
      simp only [settleN, e]
      have h1 := h.step ok e
      have h2 := settleN_frs n fs' (settle1_step ok e).1 h1.1
      exact ⟨h2.1, by omega⟩
theorem settle_frs {fs : List Fr} (ok : SetOk fs) (h : FrsOk heads cells pf fs) : FrsOk heads cells pf (settle fs) ∧ (settle fs).length ≤ fs.length := settleN_frs _ fs ok h
end
/-- of bodies and heads -/
structure BdOk (heads : List (Nat × Nat)) (bodies : List (List ND)) (cells : Nat) (pf : List Nat) : Prop where
  len : bodies.length = heads.length
  hd : ∀ (i : Nat) (h : Nat × Nat), heads[i]? = some h → h.1 ≤ h.2 ∧ h.2 ≤ 4
  bd : ∀ (i : Nat) (h : Nat × Nat), heads[i]? = some h → NsOk h.2 cells (heads.map Prod.fst) (fun p => pf[p]? = some i) (bodies.getD i []) ∧ szNs (bodies.getD i []) ≤ 100
/-- what must hold ahead of a deed: f without it -/
structure DoOk (M : Mach) (f : Fr) (r : List Fr) (d : ND) : Prop where
  bd : BdOk M.heads M.bodies M.held.length M.pf
  c : Rng M.held
  fr : FrsOk M.heads M.held.length M.pf (f :: r)
  nd : NOk f.names.length M.held.length (M.heads.map Prod.fst) (fun p => M.pf[p]? = some f.fn) d
  ht : HtOk (.deed d :: f.todo)
  ni : NoInto f.todo
  low : ∀ g ∈ r, LowOk g
  few : r.length + 1 ≤ 20
theorem mkFrame_ok {heads : List (Nat × Nat)} {bodies : List (List ND)} {cells fn : Nat} {pf : List Nat} {h : Nat × Nat} {ws : List Int} (B : BdOk heads bodies cells pf) (e : heads[fn]? = some h) (hw : ws.length ≤ h.2) (rw_ : Rng ws) :
    FrOk heads cells pf (mkFrame bodies heads fn ws) ∧ HtOk (mkFrame bodies heads fn ws).todo ∧ NoInto (mkFrame bodies heads fn ws).todo := by
  have e2 : (heads.getD fn (0, 0)).2 = h.2 := by rw [List.getD_eq_getElem?_getD, e]; rfl
  obtain ⟨b1, b2⟩ := B.bd fn h e
  have hl : (mkFrame bodies heads fn ws).names.length = h.2 := by
    show (ws ++ List.replicate ((heads.getD fn (0, 0)).2 - ws.length) 0).length = _
    rw [e2, List.length_append, List.length_replicate]; omega
  refine ⟨⟨⟨h, e, hl⟩, fun x hx => ?_, fun t ht => ?_⟩, ?_, ?_⟩
  · rcases List.mem_append.mp hx with q | q
    · exact rw_ x q
    · rw [(List.mem_replicate.mp q).2]; exact sm0
  · rw [hl, List.mem_singleton.mp ht]
    exact .inr b1
  · show (0 : Nat) + (2 * szNs (bodies.getD fn []) + 1) ≤ 205 ∧ True
    exact ⟨by omega, trivial⟩
  · intro t ht k
    rw [List.mem_singleton.mp ht]; intro q; cases q
theorem inner_sz {i : List (List ND)} {l : List (List Dd)} (e : i.map (fun b => b.map ND.d) = l) (k : Nat) : szNs (i.getD k []) = szDs (l.getD k []) := by
  subst e
  rw [List.getD_eq_getElem?_getD, List.getD_eq_getElem?_getD, List.getElem?_map]
  cases i[k]? with
  | none => rfl
  | some b => rfl
/-- a task put ahead -/
theorem FrOk.push {heads : List (Nat × Nat)} {cells : Nat} {pf : List Nat} {f : Fr} {t : Task} (h : FrOk heads cells pf f) (ht : (∃ k, t = .into k) ∨ TOk f.names.length cells (heads.map Prod.fst) (fun p => pf[p]? = some f.fn) t) : FrOk heads cells pf { f with todo := t :: f.todo } :=
  ⟨h.hd, h.rn, fun x hx => by
    rcases List.mem_cons.mp hx with q | q
    · rw [q]; exact ht
    · exact h.ts x q⟩
theorem FrOk.name {heads : List (Nat × Nat)} {cells : Nat} {pf : List Nat} {f : Fr} {k : Nat} {v : Int} (h : FrOk heads cells pf f) (hv : Sm v) : FrOk heads cells pf { f with names := f.names.set k v } :=
  ⟨by obtain ⟨h1, h2, h3⟩ := h.hd; exact ⟨h1, h2, by show (f.names.set k v).length = _; rw [List.length_set]; exact h3⟩, rng_set h.rn hv, fun x hx => by
    show _ ∨ TOk (f.names.set k v).length _ _ _ _
    rw [List.length_set]; exact h.ts x hx⟩
theorem frs_cons {heads : List (Nat × Nat)} {cells : Nat} {pf : List Nat} {f : Fr} {r : List Fr} (h : FrOk heads cells pf f) (hr : FrsOk heads cells pf r) : FrsOk heads cells pf (f :: r) := fun g hg => by
  rcases List.mem_cons.mp hg with q | q
  · rw [q]; exact h
  · exact hr g q
theorem noInto_cons {t : Task} {ts : List Task} (h : NoInto ts) (ht : ∀ k, t ≠ .into k) : NoInto (t :: ts) := fun x hx k => by
  rcases List.mem_cons.mp hx with q | q
  · rw [q]; exact ht k
  · exact h x q k
structure Done (M : Mach) (x : List Fr × List Int × List (Nat × Int)) : Prop where
  st : SetOk x.1
  fr : FrsOk M.heads M.held.length M.pf x.1
  few : x.1.length ≤ 20
  c : Rng x.2.1
  cl : x.2.1.length = M.held.length
  t : x.2.2.length ≤ M.talk.length + 1
theorem doDeed_ok {M : Mach} {me : Nat} {f : Fr} {r : List Fr} {d : ND} (o : DoOk M f r d) : Done M (doDeed M me f r d) := by
  have hf := o.fr f (List.mem_cons_self ..)
  have hr : FrsOk M.heads M.held.length M.pf r := fun g hg => o.fr g (List.mem_cons_of_mem _ hg)
  have hht := o.ht.2
  have hh1 := o.ht.1
  have st0 : SetOk (f :: r) := ⟨hht, o.ni, o.low⟩
  obtain ⟨p, d, i⟩ := d
  obtain ⟨w1, w2, w3, w4⟩ := o.nd
  have hfew := o.few
  cases d with
  | set k x =>
    have hv := Pt.ev_sm (a := f.names.length) (b := M.held.length) hf.rn o.c x (by simp [Dd.wf] at w1; exact w1.2)
    exact ⟨⟨hht, o.ni, o.low⟩, frs_cons (hf.name hv) hr, hfew, o.c, rfl, Nat.le_succ _⟩
  | put k x =>
    have hv := Pt.ev_sm (a := f.names.length) (b := M.held.length) hf.rn o.c x (by simp [Dd.wf] at w1; exact w1.2)
    exact ⟨st0, o.fr, hfew, rng_set o.c hv, List.length_set .., Nat.le_succ _⟩
  | say x =>
    refine ⟨st0, o.fr, hfew, o.c, rfl, ?_⟩
    show (M.talk ++ [_]).length ≤ _
    rw [List.length_append]; exact Nat.le_refl _
  | iff x a b =>
    have hi : TOk f.names.length M.held.length (M.heads.map Prod.fst) (fun p => M.pf[p]? = some f.fn) (.body (i.getD (if x.ev f.names M.held = 0 then 1 else 0) [])) := NsOk2.get w4.1
    have hs : szNs (i.getD (if x.ev f.names M.held = 0 then 1 else 0) []) + 2 ≤ (Dd.iff x a b).sz := by
      rw [inner_sz w3]
      have := szPt_pos x
      simp only [Dd.sz]
      show szDs ([a, b].getD _ []) + 2 ≤ _
      split
      · show szDs b + 2 ≤ _; omega
      · show szDs a + 2 ≤ _; omega
    refine ⟨⟨⟨?_, hht⟩, noInto_cons o.ni (by simp), o.low⟩, frs_cons (hf.push (.inr hi)) hr, hfew, o.c, rfl, Nat.le_succ _⟩
    simp only [TkM, ND.d] at hh1
    show f.todo.length + (2 * szNs (i.getD (if x.ev f.names M.held = 0 then 1 else 0) []) + 1) ≤ 205
    omega
  | again x b =>
    have hi : TOk f.names.length M.held.length (M.heads.map Prod.fst) (fun p => M.pf[p]? = some f.fn) (.loop (x.ev f.names M.held % 10).toNat (i.getD 0 [])) := ⟨by omega, NsOk2.get w4.1⟩
    have hs : szNs (i.getD 0 []) + 2 ≤ (Dd.again x b).sz := by
      rw [inner_sz w3]
      have := szPt_pos x
      simp only [Dd.sz]
      show szDs b + 2 ≤ _; omega
    refine ⟨⟨⟨?_, hht⟩, noInto_cons o.ni (by simp), o.low⟩, frs_cons (hf.push (.inr hi)) hr, hfew, o.c, rfl, Nat.le_succ _⟩
    simp only [TkM, ND.d] at hh1
    show f.todo.length + (2 * szNs (i.getD 0 []) + 2) ≤ 205
    omega
  | call g xs k =>
    simp only [Dd.wf, Bool.and_eq_true, decide_eq_true_eq] at w1
    obtain ⟨c1, c2, c3⟩ := w1
    simp only [doDeed, ND.d]
    split
    · exact ⟨⟨hht, o.ni, o.low⟩, frs_cons (hf.name sm0) hr, hfew, o.c, rfl, Nat.le_succ _⟩
    · rename_i hne
      rw [List.getElem?_map] at c1
      cases eh : M.heads[g]? with
      | none => rw [eh] at c1; cases c1
      | some h =>
        rw [eh] at c1
        have c1 : h.1 = xs.length := Option.some.inj c1
        have hh := o.bd.hd g h eh
        have hws : Rng (xs.map (·.ev f.names M.held)) := by
          intro v hv
          obtain ⟨y, hy, rfl⟩ := List.mem_map.mp hv
          have : ∀ (ys : List Pt), wfPs f.names.length M.held.length ys = true → ∀ y ∈ ys, y.wf f.names.length M.held.length = true := by
            intro ys
            induction ys with
            | nil => intro _ y hy; cases hy
            | cons z s ih =>
              intro h y hy
              simp only [wfPs, Bool.and_eq_true] at h
              rcases List.mem_cons.mp hy with q | q
              · rw [q]; exact h.1
              · exact ih h.2 y q
          exact Pt.ev_sm hf.rn o.c y (this xs c3 y hy)
        obtain ⟨m1, m2, m3⟩ := mkFrame_ok o.bd eh (by rw [List.length_map]; omega) hws
        have hk : f.todo.length + 1 ≤ 205 := by simp only [TkM, ND.d, Dd.sz] at hh1; omega
        refine ⟨⟨m2, m3, fun q hq => ?_⟩, frs_cons m1 (frs_cons (hf.push (.inl ⟨k, rfl⟩)) hr), ?_, o.c, rfl, Nat.le_succ _⟩
        · rcases List.mem_cons.mp hq with e | e
          · rw [e]; exact ⟨⟨hk, hht⟩, k, f.todo, rfl, c2, o.ni⟩
          · exact o.low q e
        · show r.length + 1 + 1 ≤ 20; omega
  | ret x =>
    have hv := Pt.ev_sm (a := f.names.length) (b := M.held.length) hf.rn o.c x (by simpa [Dd.wf] using w1)
    refine ⟨st0.back _, hr.back hv, ?_, o.c, rfl, Nat.le_succ _⟩
    show (backF _ r).length ≤ 20
    cases r with
    | nil => simp [backF]
    | cons g s => simp only [backF]; simp only [List.length_cons] at hfew; split <;> (simp only [List.length_cons]; omega)
/-- of a whole machine -/
structure MOk (M : Mach) : Prop where
  bd : BdOk M.heads M.bodies M.held.length M.pf
  c : Rng M.held
  c8 : M.held.length ≤ 8
  h1 : 1 ≤ M.hands.length
  h3 : M.hands.length ≤ 3
  hs : ∀ fs ∈ M.hands, SetOk fs ∧ FrsOk M.heads M.held.length M.pf fs ∧ fs.length ≤ 20 ∧ settle1 fs = none
  wh : M.whose < M.hands.length
  tk : M.talk.length ≤ M.done
theorem seek_lt {hs : List (List Fr)} {w : Nat} (h : w < hs.length) : seek hs w < hs.length := seekN_lt _ h
theorem settle1_none {f : Fr} {r : List Fr} (h : SetOk (f :: r)) (e : settle1 (f :: r) = none) : ∃ d t, f.todo = .deed d :: t := by
  cases ht : f.todo with
  | nil => simp only [settle1, ht] at e; cases e
  | cons t ts =>
    simp only [settle1, ht] at e
    cases t with
    | deed d => exact ⟨d, ts, rfl⟩
    | into k => exact absurd rfl (h.2.1 (.into k) (by rw [ht]; exact List.mem_cons_self ..) k)
    | body b => cases e
    | loop n b => cases e
theorem MOk.doOk {M : Mach} (o : MOk M) {f : Fr} {r : List Fr} {d : ND} {t : List Task} (e : M.hands[M.whose]? = some (f :: r)) (ht : f.todo = .deed d :: t) : DoOk M { f with todo := t, at_ := some d.place } r d := by
  obtain ⟨h1, h2, h3, h4⟩ := o.hs _ (List.mem_of_getElem? e)
  obtain ⟨k1, k2, k3⟩ := h1
  have hf := h2 f (List.mem_cons_self ..)
  rw [ht] at k1 k2
  refine ⟨o.bd, o.c, frs_cons ⟨hf.hd, hf.rn, fun x hx => hf.ts x (by rw [ht]; exact List.mem_cons_of_mem _ hx)⟩ fun g hg => h2 g (List.mem_cons_of_mem _ hg), ?_, k1, fun x hx => k2 x (List.mem_cons_of_mem _ hx), k3, h3⟩
  rcases hf.ts (.deed d) (by rw [ht]; exact List.mem_cons_self ..) with ⟨k, q⟩ | q
  · cases q
  · exact q
theorem Mach.deed_eq {M : Mach} {f : Fr} {r : List Fr} {d : ND} {t : List Task} (e : M.hands[M.whose]? = some (f :: r)) (ht : f.todo = .deed d :: t) :
    M.deed = (let x := doDeed M M.whose { f with todo := t, at_ := some d.place } r d
      let hs := M.hands.set M.whose (settle x.1)
      { M with hands := hs, held := x.2.1, talk := x.2.2, done := M.done + 1, whose := seek hs ((M.whose + 1) % hs.length) }) := by
  unfold Mach.deed
  rw [List.getD_eq_getElem?_getD, e]
  simp only [Option.getD_some, ht]
theorem MOk.deed {M : Mach} (o : MOk M) {f : Fr} {r : List Fr} {d : ND} {t : List Task} (e : M.hands[M.whose]? = some (f :: r)) (ht : f.todo = .deed d :: t) : MOk M.deed := by
  have D := doDeed_ok (me := M.whose) (o.doOk e ht)
  rw [Mach.deed_eq e ht]
  have hw := o.wh
  have h1 := o.h1
  refine ⟨?_, D.c, ?_, ?_, ?_, fun fs hfs => ?_, ?_, ?_⟩
  · show BdOk M.heads M.bodies (doDeed M M.whose { f with todo := t, at_ := some d.place } r d).2.1.length M.pf
    rw [D.cl]; exact o.bd
  · show (doDeed M M.whose { f with todo := t, at_ := some d.place } r d).2.1.length ≤ 8
    rw [D.cl]; exact o.c8
  · show 1 ≤ (M.hands.set _ _).length; rw [List.length_set]; exact o.h1
  · show (M.hands.set _ _).length ≤ 3; rw [List.length_set]; exact o.h3
  · show SetOk fs ∧ FrsOk M.heads (doDeed M M.whose { f with todo := t, at_ := some d.place } r d).2.1.length M.pf fs ∧ _
    rw [D.cl]
    rcases List.mem_or_eq_of_mem_set hfs with q | q
    · exact o.hs fs q
    · rw [q]
      have := settle_frs D.st D.fr
      have := D.few
      exact ⟨settle_ok D.st, (settle_frs D.st D.fr).1, by omega, settle_done D.st⟩
  · refine seek_lt (Nat.mod_lt _ ?_)
    rw [List.length_set]; omega
  · show (doDeed M M.whose { f with todo := t, at_ := some d.place } r d).2.2.length ≤ M.done + 1
    have := D.t; have := o.tk; omega
end SD
set_option Elab.async false
set_option linter.all false
set_option maxRecDepth 100000
set_option maxHeartbeats 4000000
namespace SD
open PySem PySem.Spec PyProof.Rows L2
/-! ### Machine.call, do: one hand's cells laid open -/
abbrev dC (K : PySem.W.Frag) (g : MG) (wh dn : Nat) (held : List Int) (hl : Addr) (gs : List FG) (fs : List Fr) (R : List (Addr × HO)) : List (Addr × HO) :=
  (g.m, mOw K g wh dn) :: (g.he, .lst (held.map V.int)) :: (g.ta, .lst g.tv) :: (hC K hl gs fs ++ R)
structure DAt (K : PySem.W.Frag) (H : Hp) (g : MG) (M : Mach) (me : Nat) (hl : Addr) : Prop where
  bf : SqF K H g.bd g.bv
  b : NBsAt K H M.bodies g.bv
  hf : SqF K H g.hd g.hv
  h : HdsAt K H M.heads g.hv
  sf : SqF K H g.hs g.hsv
  at_ : g.hsv[me]? = some (.ref hl)
  t : TalkAt K H M.talk g.tv
theorem DAt.mono {K : PySem.W.Frag} {H H' : Hp} (i : Imm H H') {g : MG} {M : Mach} {me : Nat} {hl : Addr} (h : DAt K H g M me hl) : DAt K H' g M me hl :=
  ⟨i.f h.bf, h.b.mono i, i.f h.hf, h.h.mono i, i.f h.sf, h.at_, h.t.mono i⟩
theorem PtsAt.wf_get : ∀ {xs : List Pt} {i : Nat} {p : Pt} {a b : Nat}, wfPs a b xs = true → xs[i]? = some p → p.wf a b = true
  | [], i, p, a, b, h, e => by simp at e
  | x :: r, 0, p, a, b, h, e => by simp at e; subst e; simp only [wfPs, Bool.and_eq_true] at h; exact h.1
  | x :: r, i + 1, p, a, b, h, e => by simp only [wfPs, Bool.and_eq_true] at h; exact PtsAt.wf_get (i := i) h.2 (by simpa using e)
theorem ixN_lt {n k : Nat} (h : k < n) : ixN n (k : Int) = some k := by
  unfold ixN
  rw [if_pos (by omega), if_pos (by omega)]
  rfl
theorem szPs_len : ∀ xs : List Pt, xs.length ≤ szPs xs
  | [] => by simp [szPs]
  | x :: r => by have := szPt_pos x; have := szPs_len r; simp only [szPs, List.length_cons]; omega
def sp_Machine_call (K : PySem.W.Frag) (w : World) : Sp := fun vs H Q _ => ∃ (g : MG) (M : Mach) (me : Nat) (hl : Addr) (fg : FG) (gs : List FG) (f : Fr) (r : List Fr) (vd : V) (wh dn p : Nat) (i : List (List ND)) (fn : Nat) (xs : List Pt) (k : Nat) (R : List (Addr × HO)), vs = [.ref g.m, .int (me : Nat), .ref fg.x, vd] ∧
  Holds H (dC K g wh dn M.held hl (fg :: gs) (f :: r) R) ∧ DAt K H g M me hl ∧ FrsAt K H (fg :: gs) (f :: r) ∧ DdAt K H (.call fn xs k) vd ∧ DoOk M f r (.mk p (.call fn xs k) i) ∧
  ∀ H' gs', Imm H H' → Holds H' (dC K g wh dn M.held hl gs' (doDeed M me f r (.mk p (.call fn xs k) i)).1 R) → FrsAt K H' gs' (doDeed M me f r (.mk p (.call fn xs k) i)).1 → Q .non H'
abbrev n_m_Machine_call : List Str := ["self", "me", "frame", "deed", "worths", "part"]
def t_m_Machine_call (K : PySem.W.Frag) (w : World)  : TS :=
 (tSeq (tAsg (tLc (iTup K (tOp (rIxT K) (tVar 3) (tC (.int 2)))) (gName 5) tYes (tCall (sp_worth 8 K w) [] E0 (tCons (tVar 5) (tCons (xfFrame_names K (tVar 2)) (tCons (xfMachine_held K (tVar 0)) tNil)))) [5]) (gName 4))
 (tIfS (tTest (tOp rEq (tCB (rLenS' K) (tCons (tOp (rIxL K) (xfMachine_hands K (tVar 0)) (tVar 1)) tNil)) (tC (.int 20)))) (tAsg (tC (.int 0)) (gSub (xfFrame_names K (tVar 2)) (tOp (rIxT K) (tVar 3) (tC (.int 3))) rSetL)) (tSeq (tDrop (tBM K "list" rAppend (xfFrame_todo K (tVar 2)) (tCons (tTup (tCons (tC (.str "into")) (tCons (tOp (rIxT K) (tVar 3) (tC (.int 3))) tNil))) tNil)))
 (tDrop (tBM K "list" rAppend (tOp (rIxL K) (xfMachine_hands K (tVar 0)) (tVar 1)) (tCons (tMeth (He.ga K "Machine") "frame" (sp_Machine_frame K w) [] E0 (tVar 0) (tCons (tOp (rIxT K) (tVar 3) (tC (.int 1))) (tCons (tVar 4) tNil))) tNil))))))
theorem pu_m_Machine_call {K : PySem.W.Frag} {w : World} (vs : List V) (H : Hp) (Q : VK) (E : XK) (h : sp_Machine_call K w vs H Q E) : t_m_Machine_call K w { nx := fun _ H' => Q .non H', rt := Q } (start n_m_Machine_call vs) H := by
  obtain ⟨g, M, me, hl, fg, gs, f, r, vd, wh, dn, p, i, fn, xs, k, R, rfl, hH, hA, hF, ⟨a, vp, ps, rfl, hd1, hd2, hd3⟩, ok, q⟩ := h
  obtain ⟨w1, w2, _, _⟩ := ok.nd
  simp only [Dd.wf, Bool.and_eq_true, decide_eq_true_eq] at w1
  obtain ⟨c1, c2, c3⟩ := w1
  have hf := ok.fr f (List.mem_cons_self ..)
  have hpl := hd3.len
  have hsz := ok.ht.1
  simp only [TkM, ND.d, Dd.sz] at hsz
  have hxl := szPs_len xs
  refine ⟨_, rfl, a, _, 2, _, rfl, rfl, hd1, rfl, vp, rfl, ⟨_, hd2⟩, fun D hD => ?_⟩
  refine lc_it (walk_tup (xs := ps)) (fun j H2 => Imm H H2 ∧ Holds H2 ((D, .lst ((xs.take j).map fun y => V.int (y.ev f.names M.held))) :: dC K g wh dn M.held hl (fg :: gs) (f :: r) R))
    ⟨.new hD, by simpa using hH.new hD⟩ (fun j H2 _ hP => hP.1.t hd2) (fun j u H2 H3 hlt hP hY => ?_) fun H2 hP => ?_
  · obtain ⟨i2, h2⟩ := hP
    obtain ⟨rfl, hu⟩ := hY
    obtain ⟨y, ey, hy⟩ := hd3.get hu
    have hy := hy.mono i2
    refine ⟨rfl, _, rfl, _, rfl, fg.x, fg.dx, _, _, _, _, rfl, h2.tail.tail.tail.tail.tail.head, _, rfl, g.m, g.dx, _, _, _, _, _, _, _, rfl, h2.tail.head, ?_⟩
    refine ⟨y, _, fg.na, g.he, f.names, M.held, rfl, ?_, hy, PtsAt.wf_get c3 ey, SqL.of h2.tail.tail.tail.tail.tail.tail.head, SqL.of h2.tail.tail.head, hf.rn, ok.c, fun H4 s4 => ?_⟩
    · have := dpPs_get ey
      simp only [Dd.dp] at w2; omega
    have h4 := h2.same s4
    refine ⟨_, h4.head, ?_, i2.trans ((Imm.same s4).trans (h4.imm rfl)), ?_⟩
    · rw [List.length_map, List.length_take]; exact small1000 (by omega)
    · have e : ((xs.take (j + 1)).map fun y => V.int (y.ev f.names M.held)) = ((xs.take j).map fun y => V.int (y.ev f.names M.held)) ++ [V.int (y.ev f.names M.held)] := by rw [take_snoc ey, List.map_append]; rfl
      rw [e]; exact h4.upd
  · obtain ⟨i2, h2⟩ := hP
    rw [hpl, List.take_length] at h2
    have hA2 := hA.mono i2
    have hF2 := hF.mono i2
    have hd1 := i2.t hd1
    refine ⟨_, rfl, g.m, g.dx, _, _, _, _, _, _, _, rfl, h2.tail.head, _, rfl, g.hs, _, _, _, rfl, rfl, hA2.sf.l, atI_nat hA2.at_, _, _, rfl, .inl (SqL.of h2.tail.tail.tail.tail.head), rfl, _, rfl, ?_⟩
    have hln : (hlV (fg :: gs)).length = r.length + 1 := by rw [hlV_len, List.length_cons]; have := hF.2.len; omega
    have h2' : Holds H2 (dC K g wh dn M.held hl (fg :: gs) (f :: r) R) := h2.tail
    have hfew := ok.few
    refine ite2 (fun c => ?_) fun c => ?_
    · have hc : r.length + 1 = 20 := by have := V.int.inj (of_decide_eq_true c); omega
      have ed : (doDeed M me f r (.mk p (.call fn xs k) i)).1 = { f with names := f.names.set k 0 } :: r := by simp only [doDeed, ND.d]; rw [if_pos hc]
      rw [ed] at q
      refine ⟨_, rfl, fg.x, fg.dx, _, _, _, _, rfl, h2'.tail.tail.tail.tail.head, _, rfl, a, _, 3, _, rfl, rfl, hd1, rfl, fg.na, _, _, k, rfl, rfl, h2'.tail.tail.tail.tail.tail.head, ixN_lt (by rw [List.length_map]; exact c2), ?_⟩
      have em : (f.names.map V.int).set k (.int 0) = (f.names.set k 0).map V.int := by rw [List.map_set]
      rw [em]
      have h3 := h2'.set 5 (o' := .lst ((f.names.set k 0).map V.int)) rfl
      have i3 : Imm _ (upd _ fg.na (.lst ((f.names.set k 0).map V.int))) := Imm.upd h2'.tail.tail.tail.tail.tail.head rfl
      exact q _ (fg :: gs) (i2.trans i3) h3 ⟨hF2.1.mono i3, hF2.2.mono i3⟩
    · have hc : ¬ r.length + 1 = 20 := fun e => by
        refine c (decide_eq_true ?_)
        rw [hln, e]; rfl
      have ed : (doDeed M me f r (.mk p (.call fn xs k) i)).1 = mkFrame M.bodies M.heads fn (xs.map (·.ev f.names M.held)) :: { f with todo := .into k :: f.todo } :: r := by simp only [doDeed, ND.d]; rw [if_neg hc]
      rw [ed] at q
      have htl := hF2.1.len
      rw [List.length_reverse] at htl
      refine ⟨_, rfl, fg.x, fg.dx, _, _, _, _, rfl, h2'.tail.tail.tail.tail.head, tyL h2'.tail.tail.tail.tail.tail.tail.head, _, rfl, a, _, 3, _, rfl, rfl, hd1, rfl, (by show 2 ≤ sizeLine; decide), fun tp htp => ?_⟩
      have h3 := h2.skip (o := .tup [.str "into", .int (k : Nat)]) htp
      have i3 := Imm.new (o := .tup [.str "into", .int (k : Nat)]) htp
      refine ⟨fg.ta, _, .ref tp, rfl, rfl, h3.tail.tail.tail.tail.tail.tail.tail.head, ?_, ?_⟩
      · rw [htl]; exact small1000 (by omega)
      have h4 := h3.set 7 (o' := .lst (fg.tv ++ [.ref tp])) rfl
      have i4 : Imm _ (upd _ fg.ta (.lst (fg.tv ++ [.ref tp]))) := Imm.upd h3.tail.tail.tail.tail.tail.tail.tail.head rfl
      have i34 := i3.trans i4
      have ht4 := i4.t (K := K) (a := tp) (xs := [.str "into", .int (k : Nat)]) (.inl (.inl upd_same))
      have h4' : Holds _ ((D, .lst (xs.map fun y => V.int (y.ev f.names M.held))) :: dC K g wh dn M.held hl ({ fg with tv := fg.tv ++ [.ref tp] } :: gs) ({ f with todo := .into k :: f.todo } :: r) R) := h4
      have hA4 := hA2.mono i34
      have hF4 : FrsAt K (upd (upd H2 tp (.tup [.str "into", .int (k : Nat)])) fg.ta (.lst (fg.tv ++ [.ref tp]))) ({ fg with tv := fg.tv ++ [.ref tp] } :: gs) ({ f with todo := .into k :: f.todo } :: r) := by
        refine ⟨?_, hF2.2.mono i34⟩
        show TsAt K _ (.into k :: f.todo) (fg.tv ++ [V.ref tp]).reverse
        rw [List.reverse_append]
        exact ⟨.ref tp, fg.tv.reverse, rfl, ⟨tp, rfl, ht4⟩, hF2.1.mono i34⟩
      have hd1 := i34.t hd1
      generalize upd (upd H2 tp (.tup [.str "into", .int (k : Nat)])) fg.ta (.lst (fg.tv ++ [.ref tp])) = H4 at h4' hA4 hF4 hd1 i34
      refine ⟨_, rfl, g.m, g.dx, _, _, _, _, _, _, _, rfl, h4'.tail.head, _, rfl, g.hs, _, _, _, rfl, rfl, hA4.sf.l, atI_nat hA4.at_, tyL h4'.tail.tail.tail.tail.head, ?_⟩
      refine ⟨_, rfl, g.m, g.dx, _, rfl, h4'.tail.head, nmMachine_frame, _, rfl, a, _, 1, _, rfl, rfl, hd1, rfl, _, rfl, ?_⟩
      rw [List.getElem?_map] at c1
      cases eh : M.heads[fn]? with
      | none => rw [eh] at c1; cases c1
      | some hdr =>
        rw [eh] at c1
        have c1 : hdr.1 = xs.length := Option.some.inj c1
        have hh := ok.bd.hd fn hdr eh
        have hfl : fn < M.heads.length := (List.getElem?_eq_some_iff.mp eh).1
        have emm : (xs.map fun y => V.int (y.ev f.names M.held)) = ((xs.map (·.ev f.names M.held)).map V.int) := by rw [List.map_map]; rfl
        rw [emm] at h4'
        refine ⟨g.m, g.dx, g.hd, g.bd, D, _, g.hv, g.bv, M.heads, M.bodies, fn, hdr, xs.map (·.ev f.names M.held), _, rfl, h4', lkMachine_heads, lkMachine_bodies, hA4.hf, hA4.h, hA4.bf, hA4.b, eh, by rw [ok.bd.len]; exact hfl, by rw [List.length_map]; omega, hh.2, fun H5 gn i5 h5 t5 => ?_⟩
        have hln4 : (hlV ({ fg with tv := fg.tv ++ [.ref tp] } :: gs)).length = r.length + 1 := by rw [hlV_len, List.length_cons]; have := hF.2.len; omega
        refine ⟨hl, _, .ref gn.x, rfl, rfl, h5.tail.tail.tail.tail.tail.tail.head, ?_, ?_⟩
        · rw [hln4]; exact small1000 (by omega)
        have h6 := h5.set 6 (o' := .lst (hlV ({ fg with tv := fg.tv ++ [.ref tp] } :: gs) ++ [.ref gn.x])) rfl
        have i6 : Imm H5 (upd H5 hl (.lst (hlV ({ fg with tv := fg.tv ++ [.ref tp] } :: gs) ++ [.ref gn.x]))) := Imm.upd h5.tail.tail.tail.tail.tail.tail.head rfl
        refine q _ (gn :: { fg with tv := fg.tv ++ [.ref tp] } :: gs) (i2.trans (i34.trans (i5.trans i6))) ?_ ⟨t5.mono i6, hF4.mono (i5.trans i6)⟩
        show Holds _ ((g.m, _) :: (g.he, _) :: (g.ta, _) :: (hl, .lst (hlV (gn :: { fg with tv := fg.tv ++ [.ref tp] } :: gs))) :: (frC K gn _ ++ frsC K _ _ ++ R))
        rw [hlV_cons gn]
        refine Holds.perm h6 ?_
        exact (List.perm_append_comm_assoc [(gn.x, _), (gn.na, _), (gn.ta, _)] [(g.m, _), (g.he, _), (g.ta, _), (hl, _)] _)
end SD
set_option Elab.async false
set_option linter.all false
set_option maxRecDepth 100000
set_option maxHeartbeats 4000000
namespace SD
open PySem PySem.Spec PyProof.Rows L2
theorem in3 {H : Hp} {a b c : Addr × HO} {L R : List (Addr × HO)} (h : Holds H (a :: b :: c :: (L ++ R))) : Holds H (L ++ (a :: b :: c :: R)) := h.perm (List.perm_append_comm_assoc [a, b, c] L R)
theorem out3 {H : Hp} {a b c : Addr × HO} {L R : List (Addr × HO)} (h : Holds H (L ++ (a :: b :: c :: R))) : Holds H (a :: b :: c :: (L ++ R)) := h.perm (List.perm_append_comm_assoc L [a, b, c] R)
/-! ### Machine.do -/
def sp_Machine_do (K : PySem.W.Frag) (w : World) : Sp := fun vs H Q _ => ∃ (g : MG) (M : Mach) (me : Nat) (hl : Addr) (fg : FG) (gs : List FG) (f : Fr) (r : List Fr) (vd : V) (vi : Addr) (is : List V) (wh dn p : Nat) (d : Dd) (i : List (List ND)) (R : List (Addr × HO)), vs = [.ref g.m, .int (me : Nat), .ref fg.x, vd, .ref vi] ∧
  Holds H (dC K g wh dn M.held hl (fg :: gs) (f :: r) R) ∧ DAt K H g M me hl ∧ FrsAt K H (fg :: gs) (f :: r) ∧ DdAt K H d vd ∧ SqF K H vi is ∧ NBsAt K H i is ∧ DoOk M f r (.mk p d i) ∧ M.talk.length < sizeLine ∧
  ∀ H' gs' tv', Imm H H' → Holds H' (dC K { g with tv := tv' } wh dn (doDeed M me f r (.mk p d i)).2.1 hl gs' (doDeed M me f r (.mk p d i)).1 R) → FrsAt K H' gs' (doDeed M me f r (.mk p d i)).1 →
    TalkAt K H' (doDeed M me f r (.mk p d i)).2.2 tv' → Q .non H'
theorem nbs_getD {K : PySem.W.Frag} {H : Hp} {i : List (List ND)} {is : List V} {k : Nat} (h : NBsAt K H i is) (hk : k < i.length) : ∃ v, is[k]? = some v ∧ NBAt K H (i.getD k []) v := by
  have hl := h.len
  obtain ⟨b, e, hb⟩ := h.get (List.getElem?_eq_getElem (by omega : k < is.length))
  exact ⟨_, List.getElem?_eq_getElem (by omega), by rw [List.getD_eq_getElem?_getD, e]; exact hb⟩
abbrev n_m_Machine_do : List Str := ["self", "me", "frame", "deed", "inner", "word", "number"]
def t_m_Machine_do (K : PySem.W.Frag) (w : World)  : TS :=
 (tSeq (tAsg (tOp (rIxT K) (tVar 3) (tC (.int 0))) (gName 5))
 (tSeq (tIfS (tTest (tOp rEq (tVar 5) (tC (.str "call")))) (tSeq (tDrop (tMeth (He.ga K "Machine") "call" (sp_Machine_call K w) [] E0 (tVar 0) (tCons (tVar 1) (tCons (tVar 2) (tCons (tVar 3) tNil)))))
 tRetN) tNext)
 (tSeq (tAsg (tCall (sp_worth 8 K w) [] E0 (tCons (tOp (rIxT K) (tVar 3) (tIf (tTest (tOp (rIn K false) (tVar 5) (tTup (tCons (tC (.str "say")) (tCons (tC (.str "if")) (tCons (tC (.str "again")) (tCons (tC (.str "return")) tNil))))))) (tC (.int 1)) (tC (.int 2)))) (tCons (xfFrame_names K (tVar 2)) (tCons (xfMachine_held K (tVar 0)) tNil)))) (gName 6))
 (tIfS (tTest (tOp rEq (tVar 5) (tC (.str "set")))) (tAsg (tVar 6) (gSub (xfFrame_names K (tVar 2)) (tOp (rIxT K) (tVar 3) (tC (.int 1))) rSetL)) (tIfS (tTest (tOp rEq (tVar 5) (tC (.str "put")))) (tAsg (tVar 6) (gSub (xfMachine_held K (tVar 0)) (tOp (rIxT K) (tVar 3) (tC (.int 1))) rSetL)) (tIfS (tTest (tOp rEq (tVar 5) (tC (.str "say")))) (tDrop (tBM K "list" rAppend (xfMachine_talk K (tVar 0)) (tCons (tTup (tCons (tVar 1) (tCons (tVar 6) tNil))) tNil))) (tIfS (tTest (tOp rEq (tVar 5) (tC (.str "if")))) (tDrop (tBM K "list" rAppend (xfFrame_todo K (tVar 2)) (tCons (tTup (tCons (tC (.str "body")) (tCons (tOp (rIxL K) (tVar 4) (tCB rInt1 (tCons (tOp rEq (tVar 6) (tC (.int 0))) tNil))) tNil))) tNil))) (tIfS (tTest (tOp rEq (tVar 5) (tC (.str "again")))) (tDrop (tBM K "list" rAppend (xfFrame_todo K (tVar 2)) (tCons (tTup (tCons (tC (.str "loop")) (tCons (tOp (rI (fun _ j => 0 < j) fun i j => .int (i % j)) (tVar 6) (tC (.int 10))) (tCons (tOp (rIxL K) (tVar 4) (tC (.int 0))) tNil)))) tNil))) (tDrop (tMeth (He.ga K "Machine") "back" (sp_Machine_back K w) [] E0 (tVar 0) (tCons (tOp (rIxL K) (xfMachine_hands K (tVar 0)) (tVar 1)) (tCons (tVar 6) tNil))))))))))))
theorem pu_m_Machine_do {K : PySem.W.Frag} {w : World} (vs : List V) (H : Hp) (Q : VK) (E : XK) (h : sp_Machine_do K w vs H Q E) : t_m_Machine_do K w { nx := fun _ H' => Q .non H', rt := Q } (start n_m_Machine_do vs) H := by
  obtain ⟨g, M, me, hl, fg, gs, f, r, vd, vi, is, wh, dn, p, d, i, R, rfl, hH, hA, hF, hd, hvi, his, ok, htk, q⟩ := h
  obtain ⟨w1, w2, w3, _⟩ := ok.nd
  have hf := ok.fr f (List.mem_cons_self ..)
  have hsz := ok.ht.1
  have htl := hF.1.len
  rw [List.length_reverse] at htl
  have htv : fg.tv.length ≤ 205 := by have := HtOk.len ok.ht.2; omega
  cases d with
  | call fn xs k =>
    obtain ⟨a, vp, ps, rfl, hd1, hd2, hd3⟩ := hd
    refine ⟨_, rfl, a, _, 0, _, rfl, rfl, hd1, rfl, _, rfl, rfl, _, rfl, iteT ?_⟩
    refine ⟨_, rfl, g.m, g.dx, _, rfl, hH.head, nmMachine_call, _, rfl, _, rfl, _, rfl, ?_⟩
    refine ⟨g, M, me, hl, fg, gs, f, r, _, wh, dn, p, i, fn, xs, k, R, rfl, hH, hA, hF, ⟨a, vp, ps, rfl, hd1, hd2, hd3⟩, ok, fun H' gs' i' h' f' => ?_⟩
    have eh : (doDeed M me f r (.mk p (.call fn xs k) i)).2.1 = M.held ∧ (doDeed M me f r (.mk p (.call fn xs k) i)).2.2 = M.talk := by simp only [doDeed, ND.d]; split <;> exact ⟨rfl, rfl⟩
    refine q H' gs' g.tv i' ?_ f' ?_
    · rw [eh.1]; exact h'
    · rw [eh.2]; exact hA.t.mono i'
  | set k x =>
    obtain ⟨a, vx, rfl, hd1, hx⟩ := hd
    have wx : x.wf f.names.length M.held.length = true := by simp [Dd.wf] at w1; exact w1.2
    have dx : x.dp ≤ 8 := by have w2' := w2; simp only [Dd.dp] at w2'; omega
    refine ⟨_, rfl, a, _, 0, _, rfl, rfl, hd1, rfl, _, rfl, rfl, _, rfl, iteF ?_⟩
    refine ⟨_, rfl, _, rfl, (by show 4 ≤ sizeLine; decide), fun t ht2 => ?_⟩
    have i1 := Imm.new (o := .tup [.str "say", .str "if", .str "again", .str "return"]) ht2
    have h1 := hH.skip (o := .tup [.str "say", .str "if", .str "again", .str "return"]) ht2
    refine ⟨t, _, rfl, .inr (.inl (.inl upd_same)), rfl, rfl, _, rfl, iteF ?_⟩
    refine ⟨a, _, 2, _, rfl, rfl, i1.t hd1, rfl, _, rfl, fg.x, fg.dx, _, _, _, _, rfl, h1.tail.tail.tail.tail.head, _, rfl, g.m, g.dx, _, _, _, _, _, _, _, rfl, h1.head, ?_⟩
    refine ⟨x, _, fg.na, g.he, f.names, M.held, rfl, dx, hx.mono i1, wx, SqL.of h1.tail.tail.tail.tail.tail.head, SqL.of h1.tail.head, hf.rn, ok.c, fun H2 s2 => ?_⟩
    have h2 := h1.same s2
    have i2 := i1.trans (Imm.same s2)
    have hd1 := i2.t hd1
    have hF2 := hF.mono i2
    have hA2 := hA.mono i2
    refine ⟨_, rfl, rfl, _, rfl, iteT ?_⟩
    refine ⟨_, rfl, _, rfl, fg.x, fg.dx, _, _, _, _, rfl, h2.tail.tail.tail.tail.head, _, rfl, a, _, 1, _, rfl, rfl, hd1, rfl, fg.na, _, _, k, rfl, rfl, h2.tail.tail.tail.tail.tail.head, ixN_lt (by rw [List.length_map]; simp [Dd.wf] at w1; exact w1.1), ?_⟩
    rw [show (f.names.map V.int).set k (.int (x.ev f.names M.held)) = (f.names.set k (x.ev f.names M.held)).map V.int by rw [List.map_set]]
    have h3 := h2.set 5 (o' := .lst ((f.names.set k (x.ev f.names M.held)).map V.int)) rfl
    have i3 : Imm _ (upd _ fg.na (.lst ((f.names.set k (x.ev f.names M.held)).map V.int))) := Imm.upd h2.tail.tail.tail.tail.tail.head rfl
    exact q _ (fg :: gs) g.tv (i2.trans i3) h3 ⟨hF2.1.mono i3, hF2.2.mono i3⟩ (hA2.t.mono i3)
  | put k x =>
    obtain ⟨a, vx, rfl, hd1, hx⟩ := hd
    have wx : x.wf f.names.length M.held.length = true := by simp [Dd.wf] at w1; exact w1.2
    have dx : x.dp ≤ 8 := by have w2' := w2; simp only [Dd.dp] at w2'; omega
    refine ⟨_, rfl, a, _, 0, _, rfl, rfl, hd1, rfl, _, rfl, rfl, _, rfl, iteF ?_⟩
    refine ⟨_, rfl, _, rfl, (by show 4 ≤ sizeLine; decide), fun t ht2 => ?_⟩
    have i1 := Imm.new (o := .tup [.str "say", .str "if", .str "again", .str "return"]) ht2
    have h1 := hH.skip (o := .tup [.str "say", .str "if", .str "again", .str "return"]) ht2
    refine ⟨t, _, rfl, .inr (.inl (.inl upd_same)), rfl, rfl, _, rfl, iteF ?_⟩
    refine ⟨a, _, 2, _, rfl, rfl, i1.t hd1, rfl, _, rfl, fg.x, fg.dx, _, _, _, _, rfl, h1.tail.tail.tail.tail.head, _, rfl, g.m, g.dx, _, _, _, _, _, _, _, rfl, h1.head, ?_⟩
    refine ⟨x, _, fg.na, g.he, f.names, M.held, rfl, dx, hx.mono i1, wx, SqL.of h1.tail.tail.tail.tail.tail.head, SqL.of h1.tail.head, hf.rn, ok.c, fun H2 s2 => ?_⟩
    have h2 := h1.same s2
    have i2 := i1.trans (Imm.same s2)
    have hd1 := i2.t hd1
    have hF2 := hF.mono i2
    have hA2 := hA.mono i2
    refine ⟨_, rfl, rfl, _, rfl, iteF ⟨_, rfl, rfl, _, rfl, iteT ?_⟩⟩
    refine ⟨_, rfl, _, rfl, g.m, g.dx, _, _, _, _, _, _, _, rfl, h2.head, _, rfl, a, _, 1, _, rfl, rfl, hd1, rfl, g.he, _, _, k, rfl, rfl, h2.tail.head, ixN_lt (by rw [List.length_map]; simp [Dd.wf] at w1; exact w1.1), ?_⟩
    rw [show (M.held.map V.int).set k (.int (x.ev f.names M.held)) = (M.held.set k (x.ev f.names M.held)).map V.int by rw [List.map_set]]
    have h3 := h2.set 1 (o' := .lst ((M.held.set k (x.ev f.names M.held)).map V.int)) rfl
    have i3 : Imm _ (upd _ g.he (.lst ((M.held.set k (x.ev f.names M.held)).map V.int))) := Imm.upd h2.tail.head rfl
    exact q _ (fg :: gs) g.tv (i2.trans i3) h3 ⟨hF2.1.mono i3, hF2.2.mono i3⟩ (hA2.t.mono i3)
  | say x =>
    obtain ⟨a, vx, rfl, hd1, hx⟩ := hd
    have wx : x.wf f.names.length M.held.length = true := by simpa [Dd.wf] using w1
    have dx : x.dp ≤ 8 := by have w2' := w2; simp only [Dd.dp] at w2'; omega
    refine ⟨_, rfl, a, _, 0, _, rfl, rfl, hd1, rfl, _, rfl, rfl, _, rfl, iteF ?_⟩
    refine ⟨_, rfl, _, rfl, (by show 4 ≤ sizeLine; decide), fun t ht2 => ?_⟩
    have i1 := Imm.new (o := .tup [.str "say", .str "if", .str "again", .str "return"]) ht2
    have h1 := hH.skip (o := .tup [.str "say", .str "if", .str "again", .str "return"]) ht2
    refine ⟨t, _, rfl, .inr (.inl (.inl upd_same)), rfl, rfl, _, rfl, iteT ?_⟩
    refine ⟨a, _, 1, _, rfl, rfl, i1.t hd1, rfl, _, rfl, fg.x, fg.dx, _, _, _, _, rfl, h1.tail.tail.tail.tail.head, _, rfl, g.m, g.dx, _, _, _, _, _, _, _, rfl, h1.head, ?_⟩
    refine ⟨x, _, fg.na, g.he, f.names, M.held, rfl, dx, hx.mono i1, wx, SqL.of h1.tail.tail.tail.tail.tail.head, SqL.of h1.tail.head, hf.rn, ok.c, fun H2 s2 => ?_⟩
    have h2 := h1.same s2
    have i2 := i1.trans (Imm.same s2)
    have hd1 := i2.t hd1
    have hF2 := hF.mono i2
    have hA2 := hA.mono i2
    refine ⟨_, rfl, rfl, _, rfl, iteF ⟨_, rfl, rfl, _, rfl, iteF ⟨_, rfl, rfl, _, rfl, iteT ?_⟩⟩⟩
    refine ⟨_, rfl, g.m, g.dx, _, _, _, _, _, _, _, rfl, h2.head, tyL h2.tail.tail.head, _, rfl, _, rfl, (by show 2 ≤ sizeLine; decide), fun tp htp => ?_⟩
    have h3 := h2.skip (o := .tup [.int (me : Nat), .int (x.ev f.names M.held)]) htp
    have i3 := Imm.new (o := .tup [.int (me : Nat), .int (x.ev f.names M.held)]) htp
    refine ⟨g.ta, _, .ref tp, rfl, rfl, h3.tail.tail.head, by rw [hA.t.len]; exact htk, ?_⟩
    have h4 := h3.set 2 (o' := .lst (g.tv ++ [.ref tp])) rfl
    have i4 : Imm _ (upd _ g.ta (.lst (g.tv ++ [.ref tp]))) := Imm.upd h3.tail.tail.head rfl
    refine q _ (fg :: gs) (g.tv ++ [V.ref tp]) (i2.trans (i3.trans i4)) h4 ⟨hF2.1.mono (i3.trans i4), hF2.2.mono (i3.trans i4)⟩ ?_
    exact TalkAt.app (hA2.t.mono (i3.trans i4)) ⟨tp, [], rfl, i4.t (.inl (.inl upd_same)), rfl⟩
  | iff x b c =>
    obtain ⟨a, vx, vb, vc, bs, cs, rfl, hd1, hx, _, _, _, _⟩ := hd
    have wx : x.wf f.names.length M.held.length = true := by simp [Dd.wf] at w1; exact w1.1
    have dx : x.dp ≤ 8 := by have w2' := w2; simp only [Dd.dp] at w2'; omega
    refine ⟨_, rfl, a, _, 0, _, rfl, rfl, hd1, rfl, _, rfl, rfl, _, rfl, iteF ?_⟩
    refine ⟨_, rfl, _, rfl, (by show 4 ≤ sizeLine; decide), fun t ht2 => ?_⟩
    have i1 := Imm.new (o := .tup [.str "say", .str "if", .str "again", .str "return"]) ht2
    have h1 := hH.skip (o := .tup [.str "say", .str "if", .str "again", .str "return"]) ht2
    refine ⟨t, _, rfl, .inr (.inl (.inl upd_same)), rfl, rfl, _, rfl, iteT ?_⟩
    refine ⟨a, _, 1, _, rfl, rfl, i1.t hd1, rfl, _, rfl, fg.x, fg.dx, _, _, _, _, rfl, h1.tail.tail.tail.tail.head, _, rfl, g.m, g.dx, _, _, _, _, _, _, _, rfl, h1.head, ?_⟩
    refine ⟨x, _, fg.na, g.he, f.names, M.held, rfl, dx, hx.mono i1, wx, SqL.of h1.tail.tail.tail.tail.tail.head, SqL.of h1.tail.head, hf.rn, ok.c, fun H2 s2 => ?_⟩
    have h2 := h1.same s2
    have i2 := i1.trans (Imm.same s2)
    have hd1 := i2.t hd1
    have hF2 := hF.mono i2
    have hA2 := hA.mono i2
    refine ⟨_, rfl, rfl, _, rfl, iteF ⟨_, rfl, rfl, _, rfl, iteF ⟨_, rfl, rfl, _, rfl, iteF ⟨_, rfl, rfl, _, rfl, iteT ?_⟩⟩⟩⟩
    have hil : i.length = 2 := by have := congrArg List.length w3; rw [List.length_map] at this; exact this
    obtain ⟨v, ev, hv⟩ := nbs_getD (k := if x.ev f.names M.held = 0 then 1 else 0) (his.mono i2) (by rw [hil]; split <;> omega)
    have ebl : (V.int (if decide (V.int (x.ev f.names M.held) = V.int 0) = true then 1 else 0)) = V.int ((if x.ev f.names M.held = 0 then 1 else 0 : Nat) : Nat) := by
      by_cases e : x.ev f.names M.held = 0
      · rw [if_pos e, e]; rfl
      · rw [if_neg e, if_neg (by intro c; exact e (V.int.inj (of_decide_eq_true c)))]; rfl
    refine ⟨_, rfl, fg.x, fg.dx, _, _, _, _, rfl, h2.tail.tail.tail.tail.head, tyL h2.tail.tail.tail.tail.tail.tail.head, _, rfl, _, rfl, rfl, .inr ⟨_, rfl, vi, _, _, v, rfl, ebl, (i2.f hvi).l, atI_nat ev, (by show 2 ≤ sizeLine; decide), fun tp htp => ?_⟩⟩
    have h3 := h2.skip (o := .tup [.str "body", v]) htp
    have i3 := Imm.new (o := .tup [.str "body", v]) htp
    refine ⟨fg.ta, _, .ref tp, rfl, rfl, h3.tail.tail.tail.tail.tail.tail.head, small1000 (by omega), ?_⟩
    have h4 := h3.set 6 (o' := .lst (fg.tv ++ [.ref tp])) rfl
    have i4 : Imm _ (upd _ fg.ta (.lst (fg.tv ++ [.ref tp]))) := Imm.upd h3.tail.tail.tail.tail.tail.tail.head rfl
    refine q _ ({ fg with tv := fg.tv ++ [.ref tp] } :: gs) g.tv (i2.trans (i3.trans i4)) h4 ⟨?_, hF2.2.mono (i3.trans i4)⟩ (hA2.t.mono (i3.trans i4))
    show TsAt K _ (_ :: f.todo) (fg.tv ++ [V.ref tp]).reverse
    rw [List.reverse_append]
    refine ⟨.ref tp, fg.tv.reverse, rfl, ?_, hF2.1.mono (i3.trans i4)⟩
    obtain ⟨b1, b2, rfl, b3, b4⟩ := hv.mono (i3.trans i4)
    exact ⟨tp, _, rfl, i4.t (.inl (.inl upd_same)), b1, b2, rfl, b3, b4⟩
  | again x b =>
    obtain ⟨a, vx, vb, bs, rfl, hd1, hx, _, _⟩ := hd
    have wx : x.wf f.names.length M.held.length = true := by simp [Dd.wf] at w1; exact w1.1
    have dx : x.dp ≤ 8 := by have w2' := w2; simp only [Dd.dp] at w2'; omega
    refine ⟨_, rfl, a, _, 0, _, rfl, rfl, hd1, rfl, _, rfl, rfl, _, rfl, iteF ?_⟩
    refine ⟨_, rfl, _, rfl, (by show 4 ≤ sizeLine; decide), fun t ht2 => ?_⟩
    have i1 := Imm.new (o := .tup [.str "say", .str "if", .str "again", .str "return"]) ht2
    have h1 := hH.skip (o := .tup [.str "say", .str "if", .str "again", .str "return"]) ht2
    refine ⟨t, _, rfl, .inr (.inl (.inl upd_same)), rfl, rfl, _, rfl, iteT ?_⟩
    refine ⟨a, _, 1, _, rfl, rfl, i1.t hd1, rfl, _, rfl, fg.x, fg.dx, _, _, _, _, rfl, h1.tail.tail.tail.tail.head, _, rfl, g.m, g.dx, _, _, _, _, _, _, _, rfl, h1.head, ?_⟩
    refine ⟨x, _, fg.na, g.he, f.names, M.held, rfl, dx, hx.mono i1, wx, SqL.of h1.tail.tail.tail.tail.tail.head, SqL.of h1.tail.head, hf.rn, ok.c, fun H2 s2 => ?_⟩
    have h2 := h1.same s2
    have i2 := i1.trans (Imm.same s2)
    have hd1 := i2.t hd1
    have hF2 := hF.mono i2
    have hA2 := hA.mono i2
    refine ⟨_, rfl, rfl, _, rfl, iteF ⟨_, rfl, rfl, _, rfl, iteF ⟨_, rfl, rfl, _, rfl, iteF ⟨_, rfl, rfl, _, rfl, iteF ⟨_, rfl, rfl, _, rfl, iteT ?_⟩⟩⟩⟩⟩
    have hil : i.length = 1 := by have := congrArg List.length w3; rw [List.length_map] at this; exact this
    obtain ⟨v, ev, hv⟩ := nbs_getD (k := 0) (his.mono i2) (by omega)
    have evn : V.int (x.ev f.names M.held % 10) = V.int (((x.ev f.names M.held % 10).toNat : Nat)) := by congr 1; omega
    refine ⟨_, rfl, fg.x, fg.dx, _, _, _, _, rfl, h2.tail.tail.tail.tail.head, tyL h2.tail.tail.tail.tail.tail.tail.head, _, rfl, _, _, rfl, rfl, (by show (0 : Int) < 10; decide), _, rfl, vi, _, 0, v, rfl, rfl, (i2.f hvi).l, atI_nat ev, (by show 3 ≤ sizeLine; decide), fun tp htp => ?_⟩
    have h3 := h2.skip (o := .tup [.str "loop", .int (x.ev f.names M.held % 10), v]) htp
    have i3 := Imm.new (o := .tup [.str "loop", .int (x.ev f.names M.held % 10), v]) htp
    refine ⟨fg.ta, _, .ref tp, rfl, rfl, h3.tail.tail.tail.tail.tail.tail.head, small1000 (by omega), ?_⟩
    have h4 := h3.set 6 (o' := .lst (fg.tv ++ [.ref tp])) rfl
    have i4 : Imm _ (upd _ fg.ta (.lst (fg.tv ++ [.ref tp]))) := Imm.upd h3.tail.tail.tail.tail.tail.tail.head rfl
    refine q _ ({ fg with tv := fg.tv ++ [.ref tp] } :: gs) g.tv (i2.trans (i3.trans i4)) h4 ⟨?_, hF2.2.mono (i3.trans i4)⟩ (hA2.t.mono (i3.trans i4))
    show TsAt K _ (_ :: f.todo) (fg.tv ++ [V.ref tp]).reverse
    rw [List.reverse_append]
    refine ⟨.ref tp, fg.tv.reverse, rfl, ?_, hF2.1.mono (i3.trans i4)⟩
    obtain ⟨b1, b2, rfl, b3, b4⟩ := hv.mono (i3.trans i4)
    exact ⟨tp, _, rfl, by rw [← evn]; exact i4.t (.inl (.inl upd_same)), b1, b2, rfl, b3, b4⟩
  | ret x =>
    obtain ⟨a, vx, rfl, hd1, hx⟩ := hd
    have wx : x.wf f.names.length M.held.length = true := by simpa [Dd.wf] using w1
    have dx : x.dp ≤ 8 := by have w2' := w2; simp only [Dd.dp] at w2'; omega
    refine ⟨_, rfl, a, _, 0, _, rfl, rfl, hd1, rfl, _, rfl, rfl, _, rfl, iteF ?_⟩
    refine ⟨_, rfl, _, rfl, (by show 4 ≤ sizeLine; decide), fun t ht2 => ?_⟩
    have i1 := Imm.new (o := .tup [.str "say", .str "if", .str "again", .str "return"]) ht2
    have h1 := hH.skip (o := .tup [.str "say", .str "if", .str "again", .str "return"]) ht2
    refine ⟨t, _, rfl, .inr (.inl (.inl upd_same)), rfl, rfl, _, rfl, iteT ?_⟩
    refine ⟨a, _, 1, _, rfl, rfl, i1.t hd1, rfl, _, rfl, fg.x, fg.dx, _, _, _, _, rfl, h1.tail.tail.tail.tail.head, _, rfl, g.m, g.dx, _, _, _, _, _, _, _, rfl, h1.head, ?_⟩
    refine ⟨x, _, fg.na, g.he, f.names, M.held, rfl, dx, hx.mono i1, wx, SqL.of h1.tail.tail.tail.tail.tail.head, SqL.of h1.tail.head, hf.rn, ok.c, fun H2 s2 => ?_⟩
    have h2 := h1.same s2
    have i2 := i1.trans (Imm.same s2)
    have hd1 := i2.t hd1
    have hF2 := hF.mono i2
    have hA2 := hA.mono i2
    refine ⟨_, rfl, rfl, _, rfl, iteF ⟨_, rfl, rfl, _, rfl, iteF ⟨_, rfl, rfl, _, rfl, iteF ⟨_, rfl, rfl, _, rfl, iteF ⟨_, rfl, rfl, _, rfl, iteF ?_⟩⟩⟩⟩⟩
    refine ⟨_, rfl, g.m, g.dx, _, rfl, h2.head, nmMachine_back, _, rfl, g.m, g.dx, _, _, _, _, _, _, _, rfl, h2.head, _, rfl, g.hs, _, _, _, rfl, rfl, hA2.sf.l, atI_nat hA2.at_, _, rfl, ?_⟩
    refine ⟨_, hl, fg, gs, f, r, _, (g.m, mOw K g wh dn) :: (g.he, .lst (M.held.map V.int)) :: (g.ta, .lst g.tv) :: R, rfl, in3 h2, hF2, fun f2 r2 e => ?_, fun H3 gs' i3 h3 F3 => ?_⟩
    · obtain ⟨_, k, rest, e1, e2, _⟩ := ok.low f2 (by rw [e]; exact List.mem_cons_self ..)
      exact ⟨k, rest, e1, e2⟩
    · exact q H3 gs' g.tv (i2.trans i3) (out3 h3) F3 (hA2.t.mono i3)
end SD
set_option Elab.async false
set_option linter.all false
set_option maxRecDepth 100000
set_option maxHeartbeats 4000000
namespace SD
open PySem PySem.Spec PyProof.Rows L2
/-! ### whose turn: never one at its end, while one is not -/
theorem seekN_ne : ∀ (m : Nat) {hs : List (List Fr)} {w j : Nat}, w < hs.length → j ≤ m → (hs.getD ((w + j) % hs.length) []).isEmpty = false → (hs.getD (seekN m hs w) []).isEmpty = false
  | 0, hs, w, j, hw, hj, h => by
    have : j = 0 := by omega
    subst this
    rw [Nat.add_zero, Nat.mod_eq_of_lt hw] at h
    exact h
  | m + 1, hs, w, j, hw, hj, h => by
    rw [seekN_succ]
    cases e : (hs.getD w []).isEmpty with
    | false =>
      rw [if_neg (by simp)]
      exact seekN_ne m (j := 0) hw (Nat.zero_le _) (by rw [Nat.add_zero, Nat.mod_eq_of_lt hw]; exact e)
    | true =>
      rw [if_pos rfl]
      cases j with
      | zero => rw [Nat.add_zero, Nat.mod_eq_of_lt hw, e] at h; cases h
      | succ j =>
        refine seekN_ne m (j := j) (Nat.mod_lt _ (by omega)) (by omega) ?_
        rw [Nat.mod_add_mod, show w + 1 + j = w + (j + 1) by omega]
        exact h
theorem seek_ne {hs : List (List Fr)} {w k : Nat} (hw : w < hs.length) (hk : k < hs.length) (h : (hs.getD k []).isEmpty = false) : (hs.getD (seek hs w) []).isEmpty = false := by
  refine seekN_ne hs.length (j := (k + hs.length - w) % hs.length) hw (Nat.le_of_lt (Nat.mod_lt _ (by omega))) ?_
  rw [Nat.add_mod_mod, show w + (k + hs.length - w) = k + hs.length by omega, Nat.add_mod_right, Nat.mod_eq_of_lt hk]
  exact h
/-- whose turn it is, is not at its end, while not all is over -/
def MNx (M : Mach) : Prop := M.isOver = false → (M.hands.getD M.whose []).isEmpty = false
theorem notOver {hs : List (List Fr)} (h : hs.all (·.isEmpty) = false) : ∃ k, k < hs.length ∧ (hs.getD k []).isEmpty = false := by
  induction hs with
  | nil => cases h
  | cons x r ih =>
    rw [List.all_cons] at h
    cases e : x.isEmpty with
    | false => exact ⟨0, by simp, e⟩
    | true =>
      rw [e, Bool.true_and] at h
      obtain ⟨k, h1, h2⟩ := ih h
      exact ⟨k + 1, by rw [List.length_cons]; omega, by simpa using h2⟩
theorem seek_nx {hs : List (List Fr)} {w : Nat} (hw : w < hs.length) (h : hs.all (·.isEmpty) = false) : (hs.getD (seek hs w) []).isEmpty = false := by
  obtain ⟨k, h1, h2⟩ := notOver h
  exact seek_ne hw h1 h2
/-- the deed that is next -/
theorem MOk.next {M : Mach} (o : MOk M) (n : MNx M) (h : M.isOver = false) : ∃ f r d t, M.hands[M.whose]? = some (f :: r) ∧ f.todo = .deed d :: t := by
  have hn := n h
  rw [List.getD_eq_getElem?_getD, List.getElem?_eq_getElem o.wh] at hn
  cases e : M.hands[M.whose]'o.wh with
  | nil => rw [e] at hn; cases hn
  | cons f r =>
    have e2 : M.hands[M.whose]? = some (f :: r) := by rw [List.getElem?_eq_getElem o.wh, e]
    obtain ⟨h1, _, _, h4⟩ := o.hs _ (List.mem_of_getElem? e2)
    obtain ⟨d, t, ht⟩ := settle1_none h1 h4
    exact ⟨f, r, d, t, e2, ht⟩
theorem MNx.deed {M : Mach} (o : MOk M) {f : Fr} {r : List Fr} {d : ND} {t : List Task} (e : M.hands[M.whose]? = some (f :: r)) (ht : f.todo = .deed d :: t) : MNx M.deed := by
  have h1 := o.h1
  rw [Mach.deed_eq e ht]
  intro h
  refine seek_nx (Nat.mod_lt _ ?_) h
  rw [List.length_set]; omega
/-! ### Machine.next_place -/
def sp_Machine_next_place (K : PySem.W.Frag) (w : World) : Sp := fun vs H Q _ => ∃ (g : MG) (M : Mach) (R : List (Addr × HO)) (me : Nat) (f : Fr) (r : List Fr) (d : ND) (t : List Task), vs = [.ref g.m, .int (me : Nat)] ∧ Holds H (mC K g M ++ R) ∧ MAt K H g M ∧ M.hands[me]? = some (f :: r) ∧ f.todo = .deed d :: t ∧
  Q (.int (d.place : Nat)) H
abbrev n_m_Machine_next_place : List Str := ["self", "me"]
def t_m_Machine_next_place (K : PySem.W.Frag) (w : World)  : TS :=
 (tRet (tOp (rIxT K) (tOp (rIxT K) (tOp (rIxL K) (xfFrame_todo K (tOp (rIxL K) (tOp (rIxL K) (xfMachine_hands K (tVar 0)) (tVar 1)) (tUn (rU fun i => .int (-i)) (tC (.int 1))))) (tUn (rU fun i => .int (-i)) (tC (.int 1)))) (tC (.int 1))) (tC (.int 0))))
theorem pu_m_Machine_next_place {K : PySem.W.Frag} {w : World} (vs : List V) (H : Hp) (Q : VK) (E : XK) (h : sp_Machine_next_place K w vs H Q E) : t_m_Machine_next_place K w { nx := fun _ H' => Q .non H', rt := Q } (start n_m_Machine_next_place vs) H := by
  obtain ⟨g, M, R, me, f, r, d, t, rfl, hH, hA, e, ht, q⟩ := h
  obtain ⟨hl, gs, Rest, a1, a2, a3, _⟩ := hands_split hA.s e
  have h2 := hH.tail.tail.tail.perm (List.Perm.append_right R a3)
  have eat : g.hsv[me]? = some (.ref hl) := by rw [MG.hsv, List.getElem?_map, a1]; rfl
  cases gs with
  | nil => exact a2.elim
  | cons fg gs =>
    have h2 : Holds H ((hl, .lst (hlV gs ++ [.ref fg.x])) :: (frC K fg f ++ frsC K gs r ++ Rest ++ R)) := by rw [← hlV_cons]; exact h2
    obtain ⟨ft, _⟩ := a2
    rw [ht] at ft
    obtain ⟨tkv, s, es, ⟨tk, vd, rfl, h3, h4⟩, _⟩ := ft
    have etv := rev_cons es
    have hta := h2.tail.tail.tail.head
    rw [etv] at hta
    obtain ⟨p, d', i'⟩ := d
    obtain ⟨a, vd', vi, is, rfl, h5, _⟩ := h4
    refine ⟨_, rfl, g.m, g.dx, _, _, _, _, _, _, _, rfl, hH.head, _, rfl, g.hs, _, _, _, rfl, rfl, hA.sf.l, atI_nat eat, 1, rfl, hl, _, -1, _, rfl, rfl, SqL.of h2.head, atI_last _ _, fg.x, fg.dx, _, _, _, _, rfl, h2.tail.head, ?_⟩
    refine ⟨1, rfl, fg.ta, _, -1, _, rfl, rfl, SqL.of hta, atI_last _ _, tk, _, 1, _, rfl, rfl, h3, rfl, a, _, 0, _, rfl, rfl, h5, rfl, ?_⟩
    exact q
/-! ### Machine.deed -/
theorem hsv_set {g : MG} {k : Nat} {hl : Addr} {gs gs' : List FG} (e : g.hls[k]? = some (hl, gs)) : ({ g with hls := g.hls.set k (hl, gs') } : MG).hsv = g.hsv := by
  show (g.hls.set k (hl, gs')).map _ = g.hls.map _
  rw [List.map_set]
  refine List.ext_getElem? fun i => ?_
  rw [List.getElem?_set]
  split
  · rename_i h
    subst h
    rw [List.getElem?_map, e]
    have := (List.getElem?_eq_some_iff.mp e).1
    simp [this]
  · rfl
def sp_Machine_deed (K : PySem.W.Frag) (w : World) : Sp := fun vs H Q _ => ∃ (g : MG) (M : Mach) (R : List (Addr × HO)), vs = [.ref g.m] ∧ Holds H (mC K g M ++ R) ∧ MAt K H g M ∧ MOk M ∧ MNx M ∧ M.isOver = false ∧ M.done < sizeLine ∧
  ∀ H' g', g'.m = g.m → Imm H H' → Holds H' (mC K g' M.deed ++ R) → MAt K H' g' M.deed → Q .non H'
abbrev n_m_Machine_deed : List Str := ["self", "me", "frame", "place", "deed", "inner"]
def t_m_Machine_deed (K : PySem.W.Frag) (w : World)  : TS :=
 (tSeq (tAsg (xfMachine_whose K (tVar 0)) (gName 1))
 (tSeq (tAsg (tOp (rIxL K) (tOp (rIxL K) (xfMachine_hands K (tVar 0)) (tVar 1)) (tUn (rU fun i => .int (-i)) (tC (.int 1)))) (gName 2))
 (tSeq (tAsg (tOp (rIxT K) (tBM0 K "list" rPop (xfFrame_todo K (tVar 2))) (tC (.int 1))) (gTup K 3 (gCons (gName 3) (gCons (gName 4) (gCons (gName 5) gNil)))))
 (tSeq (xsFrame_at K (tVar 2) (tVar 3))
 (tSeq (xsMachine_done K (tVar 0) (tOp (rI0 fun i j => .int (i + j)) (xfMachine_done K (tVar 0)) (tC (.int 1))))
 (tSeq (tDrop (tMeth (He.ga K "Machine") "do" (sp_Machine_do K w) [] E0 (tVar 0) (tCons (tVar 1) (tCons (tVar 2) (tCons (tVar 4) (tCons (tVar 5) tNil))))))
 (tSeq (tDrop (tMeth (He.ga K "Machine") "settle" (sp_Machine_settle K w) [] E0 (tVar 0) (tCons (tVar 1) tNil)))
 (tSeq (xsMachine_whose K (tVar 0) (tOp (rI (fun _ j => 0 < j) fun i j => .int (i % j)) (tOp (rI0 fun i j => .int (i + j)) (tVar 1) (tC (.int 1))) (tCB (rLenS' K) (tCons (xfMachine_hands K (tVar 0)) tNil))))
 (tDrop (tMeth (He.ga K "Machine") "seek" (sp_Machine_seek K w) [] E0 (tVar 0) tNil))))))))))
theorem pu_m_Machine_deed {K : PySem.W.Frag} {w : World} (vs : List V) (H : Hp) (Q : VK) (E : XK) (h : sp_Machine_deed K w vs H Q E) : t_m_Machine_deed K w { nx := fun _ H' => Q .non H', rt := Q } (start n_m_Machine_deed vs) H := by
  obtain ⟨g, M, R, rfl, hH, hA, ok, nx, ov, hdn, q⟩ := h
  obtain ⟨f, r, d, t, e, ht⟩ := ok.next nx ov
  have D0 := ok.doOk e ht
  have D := doDeed_ok (me := M.whose) D0
  have hsl : g.hsv.length = M.hands.length := by rw [MG.hsv, List.length_map]; exact hA.s.len
  obtain ⟨hl, gs0, Rest, a1, a2, a3, a4, a5⟩ := hands_split hA.s e
  have eat : g.hsv[M.whose]? = some (.ref hl) := by rw [MG.hsv, List.getElem?_map, a1]; rfl
  cases gs0 with
  | nil => exact a2.elim
  | cons fg gs =>
    have hH1 : Holds H (dC K g M.whose M.done M.held hl (fg :: gs) (f :: r) (Rest ++ R)) := by
      refine hH.perm (((List.Perm.append_right R a3).cons _).cons _ |>.cons _ |>.trans ?_)
      show List.Perm (_ :: _ :: _ :: (hC K hl (fg :: gs) (f :: r) ++ Rest ++ R)) _
      rw [List.append_assoc]
    obtain ⟨ft, fr⟩ := a2
    rw [ht] at ft
    obtain ⟨tkv, s, es, ⟨tk, vd, rfl, h3, h4⟩, hrest⟩ := ft
    have etv := rev_cons es
    obtain ⟨p, d', i'⟩ := d
    obtain ⟨a, vd', vi, is, rfl, h5, h6, h7, h8⟩ := h4
    have hH2 : Holds H ((g.m, mOw K g M.whose M.done) :: (g.he, .lst (M.held.map V.int)) :: (g.ta, .lst g.tv) :: (hl, .lst (hlV gs ++ [.ref fg.x])) :: (fg.x, frO K fg f) :: (fg.na, .lst (f.names.map V.int)) :: (fg.ta, .lst (s.reverse ++ [.ref tk])) :: (frsC K gs r ++ (Rest ++ R))) := by
      rw [← etv, ← hlV_cons]; exact hH1
    have DA : DAt K H g M M.whose hl := ⟨hA.bf, hA.b, hA.hf, hA.h, hA.sf, eat, hA.t⟩
    refine ⟨_, rfl, g.m, g.dx, _, _, _, _, _, _, _, rfl, hH2.head, ?_⟩
    refine ⟨_, rfl, g.m, g.dx, _, _, _, _, _, _, _, rfl, hH2.head, _, rfl, g.hs, _, _, _, rfl, rfl, hA.sf.l, atI_nat eat, 1, rfl, hl, _, -1, _, rfl, rfl, SqL.of hH2.tail.tail.tail.head, atI_last _ _, ?_⟩
    refine ⟨_, rfl, fg.x, fg.dx, _, _, _, _, rfl, hH2.tail.tail.tail.tail.head, tyL hH2.tail.tail.tail.tail.tail.tail.head, fg.ta, _, .ref tk, rfl, rfl, hH2.tail.tail.tail.tail.tail.tail.head, last_get _ _, ?_⟩
    rw [List.dropLast_concat]
    have h9 := hH2.set 6 (o' := .lst s.reverse) rfl
    have i9 : Imm H (upd H fg.ta (.lst s.reverse)) := Imm.upd hH2.tail.tail.tail.tail.tail.tail.head rfl
    have h9' : Holds (upd H fg.ta (.lst s.reverse)) ((g.m, mOw K g M.whose M.done) :: (g.he, .lst (M.held.map V.int)) :: (g.ta, .lst g.tv) :: (hl, .lst (hlV gs ++ [.ref fg.x])) :: (fg.x, frO K fg f) :: (fg.na, .lst (f.names.map V.int)) :: (fg.ta, .lst s.reverse) :: (frsC K gs r ++ (Rest ++ R))) := h9
    generalize upd H fg.ta (.lst s.reverse) = H1 at h9' i9 ⊢
    refine ⟨tk, _, 1, _, rfl, rfl, i9.t h3, rfl, a, _, rfl, i9.t h5, rfl, _, _, rfl, _, _, rfl, _, _, rfl, rfl, ?_⟩
    refine ⟨_, rfl, _, rfl, fg.x, fg.dx, _, _, _, _, rfl, h9'.tail.tail.tail.tail.head, ?_⟩
    have h10 := h9'.set 4 (o' := frO K fg { f with todo := t, at_ := some p }) rfl
    have i10 : Imm H1 (upd H1 fg.x (frO K fg { f with todo := t, at_ := some p })) := Imm.upd h9'.tail.tail.tail.tail.head rfl
    have h10' : Holds (upd H1 fg.x (frO K fg { f with todo := t, at_ := some p })) ((g.m, mOw K g M.whose M.done) :: (g.he, .lst (M.held.map V.int)) :: (g.ta, .lst g.tv) :: (hl, .lst (hlV gs ++ [.ref fg.x])) :: (fg.x, frO K fg { f with todo := t, at_ := some p }) :: (fg.na, .lst (f.names.map V.int)) :: (fg.ta, .lst s.reverse) :: (frsC K gs r ++ (Rest ++ R))) := h10
    have i11 := i9.trans i10
    generalize hg2 : upd H1 fg.x (frO K fg { f with todo := t, at_ := some p }) = H2 at h10' i11
    have hg2' : upd H1 fg.x (.ins (He.ga K "Frame") fg.dx (flFrame (.int (f.fn : Nat)) (.ref fg.na) (.ref fg.ta) (.int (p : Nat)))) = H2 := hg2
    rw [hg2']
    refine ⟨_, rfl, g.m, g.dx, _, _, _, _, _, _, _, rfl, h10'.head, _, _, rfl, rfl, _, rfl, g.m, g.dx, _, _, _, _, _, _, _, rfl, h10'.head, ?_⟩
    have h12 := h10'.upd (o' := mOw K g M.whose (M.done + 1))
    have i12 := i11.trans (h10'.imm (o' := mOw K g M.whose (M.done + 1)) rfl)
    generalize hg3 : upd H2 g.m (mOw K g M.whose (M.done + 1)) = H3 at h12 i12
    have hg3' : upd H2 g.m (.ins (He.ga K "Machine") g.dx (flMachine (.ref g.bd) (.ref g.hd) (.ref g.he) (.ref g.hs) (.int (M.whose : Nat)) (.ref g.ta) (.int ((M.done : Nat) + 1)))) = H3 := hg3
    rw [hg3']
    have h13 : Holds H3 (dC K g M.whose (M.done + 1) M.held hl ({ fg with tv := s.reverse } :: gs) ({ f with todo := t, at_ := some p } :: r) (Rest ++ R)) := by
      show Holds H3 (_ :: _ :: _ :: (hl, .lst (hlV ({ fg with tv := s.reverse } :: gs))) :: _)
      rw [hlV_cons]; exact h12
    refine ⟨_, rfl, g.m, g.dx, _, rfl, h13.head, nmMachine_do, _, rfl, _, rfl, _, rfl, _, rfl, ?_⟩
    refine ⟨g, M, M.whose, hl, { fg with tv := s.reverse }, gs, { f with todo := t, at_ := some p }, r, _, vi, is, M.whose, M.done + 1, p, d', i', Rest ++ R, rfl, h13, DA.mono i12, ⟨?_, fr.mono i12⟩, h6.mono i12, i12.f h7, h8.mono i12, D0, by have := ok.tk; omega, fun H4 gs' tv' i4 h4 F4 T4 => ?_⟩
    · show TsAt K H3 t s.reverse.reverse
      rw [List.reverse_reverse]; exact hrest.mono i12
    generalize hx : doDeed M M.whose { f with todo := t, at_ := some p } r (.mk p d' i') = x at h4 F4 T4
    have D : Done M x := by rw [← hx]; exact D
    have i14 := i12.trans i4
    refine ⟨_, rfl, g.m, g.dx, _, rfl, h4.head, nmMachine_settle, _, rfl, ?_⟩
    refine ⟨g.m, g.dx, g.hs, hl, _, _, _, _, _, _, g.hsv, M.whose, gs', x.1, (g.he, .lst (x.2.1.map V.int)) :: (g.ta, .lst tv') :: (Rest ++ R), rfl, in3 h4, i14.f hA.sf, eat, F4, D.st, fun H5 gs2 i5 h5 F5 => ?_⟩
    have i15 := i14.trans i5
    have h5 := out3 h5
    refine ⟨_, rfl, _, _, rfl, rfl, _, rfl, g.m, g.dx, _, _, _, _, _, _, _, rfl, h5.head, _, _, rfl, .inl (i15.f hA.sf).l, _, _, rfl, rfl, by rw [hsl]; have := ok.h1; omega, ?_⟩
    refine ⟨_, rfl, g.m, g.dx, _, _, _, _, _, _, _, rfl, h5.head, ?_⟩
    rw [hsl]
    have h6' := h5.upd (o' := mOw K g ((M.whose + 1) % M.hands.length) (M.done + 1))
    have i6 := i15.trans (h5.imm (o' := mOw K g ((M.whose + 1) % M.hands.length) (M.done + 1)) rfl)
    have F6 := F5.mono (h5.imm (o' := mOw K g ((M.whose + 1) % M.hands.length) (M.done + 1)) rfl)
    have T6 := T4.mono (i5.trans (h5.imm (o' := mOw K g ((M.whose + 1) % M.hands.length) (M.done + 1)) rfl))
    generalize hg6 : upd H5 g.m (mOw K g ((M.whose + 1) % M.hands.length) (M.done + 1)) = H6 at h6' i6 F6 T6
    have hg6' : upd H5 g.m (.ins (He.ga K "Machine") g.dx (flMachine (.ref g.bd) (.ref g.hd) (.ref g.he) (.ref g.hs) (.int (((M.whose : Nat) + 1 : Int) % (M.hands.length : Nat))) (.ref g.ta) (.int ((M.done + 1 : Nat))))) = H6 := hg6
    rw [hg6']
    have hm6 := h6'.head
    refine ⟨_, rfl, g.m, g.dx, _, rfl, hm6, nmMachine_seek, ?_⟩
    have eg : MG.hsv { g with hls := g.hls.set M.whose (hl, gs2), tv := tv' } = g.hsv := hsv_set (gs' := gs2) a1
    refine ⟨{ g with hls := g.hls.set M.whose (hl, gs2), tv := tv' }, { M with hands := M.hands.set M.whose (settle x.1), held := x.2.1, talk := x.2.2, done := M.done + 1, whose := (M.whose + 1) % M.hands.length }, R, rfl, ?_, ?_, ?_, ?_, fun H7 i7 h7 => ?_⟩
    · refine Holds.perm h6' ?_
      refine ((List.Perm.append_right R (a4 gs2 (settle x.1))).symm.cons _).cons _ |>.cons _ |> (List.Perm.trans ?_)
      show List.Perm _ (_ :: _ :: _ :: (hC K hl gs2 (settle x.1) ++ Rest ++ R))
      rw [List.append_assoc]
    · exact ⟨i6.f hA.bf, hA.b.mono i6, i6.f hA.hf, hA.h.mono i6, by show SqF K H6 g.hs (MG.hsv _); rw [eg]; exact i6.f hA.sf, a5 H6 gs2 _ i6 F6, T6⟩
    · show (M.whose + 1) % M.hands.length < (M.hands.set _ _).length
      rw [List.length_set]; exact Nat.mod_lt _ (by have := ok.h1; omega)
    · show (M.hands.set _ _).length ≤ 3
      rw [List.length_set]; exact ok.h3
    · have em := Mach.deed_eq e ht
      have em2 : M.deed = { M with hands := M.hands.set M.whose (settle x.1), held := x.2.1, talk := x.2.2, done := M.done + 1, whose := seek (M.hands.set M.whose (settle x.1)) ((M.whose + 1) % M.hands.length) } := by
        rw [em]
        show _ = _
        simp only [ND.place, List.length_set, hx]
      refine q H7 { g with hls := g.hls.set M.whose (hl, gs2), tv := tv' } rfl (i6.trans i7) ?_ ?_
      · rw [em2]; exact h7
      · rw [em2]
        have i67 := i6.trans i7
        exact ⟨i67.f hA.bf, hA.b.mono i67, i67.f hA.hf, hA.h.mono i67, by show SqF K H7 g.hs (MG.hsv _); rw [eg]; exact i67.f hA.sf, (a5 H6 gs2 _ i6 F6).mono i7, T6.mono i7⟩
end SD
set_option Elab.async false
set_option linter.all false
set_option maxRecDepth 100000
set_option maxHeartbeats 4000000
namespace SD
/-! ### a program's bodies, numbered, are fit for its frames -/
theorem num_ok_aux {names cells : Nat} {prm : List Nat} {P : Nat → Prop} : ∀ k, (∀ d n, d.sz ≤ k → d.wf names cells prm = true → d.dp ≤ 8 → (∀ q, n ≤ q → q < n + d.cnt → P q) → (numD d n).1.d = d ∧ NOk names cells prm P (numD d n).1) ∧
    ∀ b n, szDs b ≤ k → wfDs names cells prm b = true → dpDs b ≤ 8 → (∀ q, n ≤ q → q < n + cntDs b → P q) → (numDs b n).1.map ND.d = b ∧ NsOk names cells prm P (numDs b n).1 := by
  intro k
  induction k with
  | zero =>
    refine ⟨fun d n h => absurd h (by have := szDd_pos d; omega), fun b n h _ _ _ => ?_⟩
    cases b with
    | nil => exact ⟨rfl, trivial⟩
    | cons d r => have := szDd_pos d; simp [szDs] at h; omega
  | succ k ih =>
    have hD : ∀ d n, d.sz ≤ k + 1 → d.wf names cells prm = true → d.dp ≤ 8 → (∀ q, n ≤ q → q < n + d.cnt → P q) → (numD d n).1.d = d ∧ NOk names cells prm P (numD d n).1 := by
      intro d n h hw hd hP
      cases d with
      | iff x a b =>
        have hx := szPt_pos x
        have hw' := hw
        have hd' := hd
        simp only [Dd.sz] at h
        simp only [Dd.cnt] at hP
        simp only [Dd.wf, Bool.and_eq_true] at hw'
        simp only [Dd.dp] at hd'
        have e1 := numDs_snd a (n + 1)
        have h1 := ih.2 a (n + 1) (by omega) hw'.2.1 (by omega) (fun q q1 q2 => hP q (by omega) (by omega))
        have h2 := ih.2 b (numDs a (n + 1)).2 (by omega) hw'.2.2 (by omega) (fun q q1 q2 => hP q (by omega) (by omega))
        refine ⟨rfl, hw, hd, ?_, ⟨h1.2, h2.2, trivial⟩, hP n (Nat.le_refl _) (by omega)⟩
        have e1 := h1.1
        have e2 := h2.1
        show [List.map ND.d _, List.map ND.d _] = [a, b]
        exact (congrArg (fun u => [u, _]) e1).trans (congrArg (fun v => [a, v]) e2)
      | again x b =>
        have hx := szPt_pos x
        have hw' := hw
        have hd' := hd
        simp only [Dd.sz] at h
        simp only [Dd.cnt] at hP
        simp only [Dd.wf, Bool.and_eq_true] at hw'
        simp only [Dd.dp] at hd'
        have h1 := ih.2 b (n + 1) (by omega) hw'.2 (by omega) (fun q q1 q2 => hP q (by omega) (by omega))
        refine ⟨rfl, hw, hd, ?_, ⟨h1.2, trivial⟩, hP n (Nat.le_refl _) (by omega)⟩
        exact congrArg (fun u => [u]) h1.1
      | _ => exact ⟨rfl, hw, hd, rfl, trivial, hP n (Nat.le_refl _) (by simp only [Dd.cnt]; omega)⟩
    refine ⟨hD, fun b => ?_⟩
    induction b with
    | nil => intro n _ _ _ _; exact ⟨rfl, trivial⟩
    | cons d r ihr =>
      intro n h hw hd hP
      simp only [szDs] at h
      simp only [cntDs] at hP
      simp only [wfDs, Bool.and_eq_true] at hw
      simp only [dpDs] at hd
      have e1 := numD_snd d n
      have h1 := hD d n (by omega) hw.1 (by omega) (fun q q1 q2 => hP q q1 (by omega))
      have h2 := ihr (numD d n).2 (by omega) hw.2 (by omega) (fun q q1 q2 => hP q (by omega) (by omega))
      exact ⟨by show _ :: _ = _; rw [h1.1, h2.1], h1.2, h2.2⟩
theorem num_ok {names cells : Nat} {prm : List Nat} {P : Nat → Prop} {b : List Dd} (n : Nat) (h : wfDs names cells prm b = true) (hd : dpDs b ≤ 8) (hP : ∀ q, n ≤ q → q < n + cntDs b → P q) : (numDs b n).1.map ND.d = b ∧ NsOk names cells prm P (numDs b n).1 :=
  (num_ok_aux (szDs b)).2 b n (Nat.le_refl _) h hd hP
theorem numFs_get : ∀ {fs : List Fn} {n i k : Nat} {f : Fn}, fs[i]? = some f → ∃ m, (numFs fs n).1[i]? = some (numDs f.body m).1 ∧ n ≤ m ∧ ∀ q, m ≤ q → q < m + cntDs f.body → (plFuns fs k)[q - n]? = some (k + i)
  | [], n, i, k, f, e => by simp at e
  | x :: r, n, 0, k, f, e => by
    simp at e; subst e
    refine ⟨n, rfl, Nat.le_refl _, fun q q1 q2 => ?_⟩
    simp only [plFuns]
    rw [List.getElem?_append_left (by rw [List.length_replicate]; omega), List.getElem?_replicate, if_pos (by omega)]
    rfl
  | x :: r, n, i + 1, k, f, e => by
    obtain ⟨m, h, hm, hq⟩ := numFs_get (fs := r) (n := (numDs x.body n).2) (i := i) (k := k + 1) (by simpa using e)
    have e1 := numDs_snd x.body n
    refine ⟨m, by simpa [numFs] using h, by omega, fun q q1 q2 => ?_⟩
    simp only [plFuns]
    rw [List.getElem?_append_right (by rw [List.length_replicate]; omega), List.length_replicate]
    have := hq q q1 q2
    rw [e1] at this
    rw [show q - n - cntDs x.body = q - (n + cntDs x.body) by omega, this]
    congr 1; omega
theorem numFs_len : ∀ (fs : List Fn) (n : Nat), (numFs fs n).1.length = fs.length
  | [], n => rfl
  | x :: r, n => by simp [numFs, numFs_len r]
theorem sz_mem {fs : List Fn} {f : Fn} (h : f ∈ fs) : szDs f.body ≤ (fs.map fun f => szDs f.body).sum := by
  induction fs with
  | nil => cases h
  | cons x r ih =>
    simp only [List.map_cons, List.sum_cons]
    rcases List.mem_cons.mp h with q | q
    · rw [q]; omega
    · have := ih q; omega
theorem heads_prm (p : Prog) : p.heads.map Prod.fst = p.params := by simp [Prog.heads, Prog.params]
theorem heads_get {p : Prog} {i : Nat} {h : Nat × Nat} (e : p.heads[i]? = some h) : ∃ f, p.funs[i]? = some f ∧ h = (f.params, f.names) := by
  rw [Prog.heads, List.getElem?_map] at e
  cases ef : p.funs[i]? with
  | none => rw [ef] at e; cases e
  | some f => rw [ef] at e; exact ⟨f, rfl, (Option.some.inj e).symm⟩
theorem Prog.bdOk {p : Prog} (W : p.Wf) : BdOk p.heads p.nbodies p.cells.length p.pfuns := by
  refine ⟨?_, fun i h e => ?_, fun i h e => ?_⟩
  · rw [Prog.nbodies, numFs_len, Prog.heads, List.length_map]
  · obtain ⟨f, ef, rfl⟩ := heads_get e
    exact W.names f (List.mem_of_getElem? ef)
  · obtain ⟨f, ef, rfl⟩ := heads_get e
    have hm := List.mem_of_getElem? ef
    obtain ⟨m, em, _, hq⟩ := numFs_get (n := 0) (k := 0) ef
    have eb : p.nbodies.getD i [] = (numDs f.body m).1 := by rw [List.getD_eq_getElem?_getD, Prog.nbodies, em]; rfl
    have hn := num_ok (P := fun q => p.pfuns[q]? = some i) m (W.bodies f hm) (W.deep f hm) (fun q q1 q2 => by have := hq q q1 q2; rw [Nat.sub_zero, Nat.zero_add] at this; exact this)
    rw [eb, heads_prm]
    refine ⟨hn.2, ?_⟩
    show szDs _ ≤ 100
    rw [hn.1]
    have := W.size; have := sz_mem hm; omega
theorem sz_small (p : Prog) : True := trivial
def Prog.hands0 (p : Prog) : List (List Fr) := p.hands.map fun f => [mkFrame p.nbodies p.heads f []]
theorem Prog.hand_ok {p : Prog} (W : p.Wf) {fn : Nat} (h : fn ∈ p.hands) : SetOk [mkFrame p.nbodies p.heads fn []] ∧ FrsOk p.heads p.cells.length p.pfuns [mkFrame p.nbodies p.heads fn []] ∧ ∃ hd, p.heads[fn]? = some hd ∧ hd.1 = 0 ∧ hd.2 ≤ 4 := by
  have h1 := W.handsR fn h
  rw [← heads_prm, List.getElem?_map] at h1
  cases e : p.heads[fn]? with
  | none => rw [e] at h1; cases h1
  | some hd =>
    rw [e] at h1
    have h1 : hd.1 = 0 := Option.some.inj h1
    have B := p.bdOk W
    obtain ⟨m1, m2, m3⟩ := mkFrame_ok (ws := []) B e (Nat.zero_le _) (fun x hx => by cases hx)
    exact ⟨⟨m2, m3, fun g hg => by cases hg⟩, fun f hf => by rw [List.mem_singleton.mp hf]; exact m1, hd, rfl, h1, (B.hd fn hd e).2⟩
theorem Prog.mach_ok {p : Prog} (W : p.Wf) : MOk p.mach := by
  have eh : p.mach.hands = p.hands.map fun f => settle [mkFrame p.nbodies p.heads f []] := rfl
  have hl : p.mach.hands.length = p.hands.length := by rw [eh, List.length_map]
  have h1 := W.hands1
  have h3 := W.hands3
  refine ⟨p.bdOk W, (fun c hc => W.cellsR c hc), W.cells8, by rw [hl]; exact h1, by rw [hl]; exact h3, fun fs hfs => ?_, ?_, Nat.le_refl _⟩
  · rw [eh] at hfs
    obtain ⟨fn, hm, rfl⟩ := List.mem_map.mp hfs
    obtain ⟨a, b, _⟩ := Prog.hand_ok W hm
    obtain ⟨c1, c2⟩ := settle_frs a b
    have c2 : _ ≤ 1 := c2
    exact ⟨settle_ok a, c1, by omega, settle_done a⟩
  · exact seek_lt (by rw [← eh, hl]; omega)
theorem Prog.mach_nx {p : Prog} (W : p.Wf) : MNx p.mach := by
  intro h
  have h1 := W.hands1
  exact seek_nx (by show 0 < (p.hands.map _).length; rw [List.length_map]; omega) h
end SD
set_option Elab.async false
set_option linter.all false
set_option maxRecDepth 100000
set_option maxHeartbeats 4000000
namespace SD
open PySem PySem.Spec PyProof.Rows L2
/-! ### Machine.__init__ -/
theorem cut2 (x y z : V) : cutV [x, y, z] none (some 2) = [x, y] := by kernel_rfl
theorem settleFrom (hs : List (List Fr)) {i : Nat} {fs : List Fr} (e : hs[i]? = some fs) : (((hs.take i).map settle) ++ hs.drop i).set i (settle fs) = ((hs.take (i + 1)).map settle) ++ hs.drop (i + 1) := by
  have hi : i < hs.length := (List.getElem?_eq_some_iff.mp e).1
  have hd : hs.drop i = fs :: hs.drop (i + 1) := by
    rw [List.drop_eq_getElem_cons hi]
    congr 1
    rw [List.getElem?_eq_getElem hi] at e
    exact Option.some.inj e
  have hl : ((hs.take i).map settle).length = i := by rw [List.length_map, List.length_take]; omega
  rw [hd, take_snoc e, List.map_append, List.set_append_right _ _ (by omega), hl, Nat.sub_self, List.set_cons_zero, List.append_assoc]
  rfl
theorem getFrom (hs : List (List Fr)) {i : Nat} {fs : List Fr} (e : hs[i]? = some fs) : (((hs.take i).map settle) ++ hs.drop i)[i]? = some fs := by
  have hi : i < hs.length := (List.getElem?_eq_some_iff.mp e).1
  have hl : ((hs.take i).map settle).length = i := by rw [List.length_map, List.length_take]; omega
  rw [List.getElem?_append_right (by omega), hl, Nat.sub_self, List.getElem?_drop, Nat.add_zero]
  exact e
theorem handsC_snoc {K : PySem.W.Frag} : ∀ {hls : List (Addr × List FG)} {hands : List (List Fr)} {x : Addr × List FG} {fs : List Fr}, hls.length = hands.length → handsC K (hls ++ [x]) (hands ++ [fs]) = handsC K hls hands ++ hC K x.1 x.2 fs
  | [], [], x, fs, _ => by simp [handsC]
  | y :: r, g :: s, x, fs, h => by
    simp only [List.cons_append, handsC]
    rw [handsC_snoc (by simpa using h), List.append_assoc]
  | [], _ :: _, _, _, h => by simp at h
  | _ :: _, [], _, _, h => by simp at h
theorem HsAt.snoc {K : PySem.W.Frag} {H : Hp} : ∀ {hls : List (Addr × List FG)} {hands : List (List Fr)} {x : Addr × List FG} {fs : List Fr}, HsAt K H hls hands → FrsAt K H x.2 fs → HsAt K H (hls ++ [x]) (hands ++ [fs])
  | [], [], x, fs, _, h => ⟨h, trivial⟩
  | y :: r, g :: s, x, fs, ⟨h1, h2⟩, h => ⟨h1, HsAt.snoc h2 h⟩
  | [], _ :: _, _, _, h, _ => h.elim
  | _ :: _, [], _, _, h, _ => h.elim
def sp_Machine_init (K : PySem.W.Frag) (w : World) : Sp := fun vs H Q _ => ∃ (x dx : Addr) (vp : V) (p : Prog) (R : List (Addr × HO)), vs = [.ref x, vp] ∧ Holds H ((x, .ins (He.ga K "Machine") dx []) :: R) ∧ ProgAt K H p vp ∧ p.Wf ∧
  ∀ H' g, g.m = x → Imm H H' → Holds H' (mC K g p.mach ++ R) → MAt K H' g p.mach → Q .non H'
abbrev n_m_Machine_init : List Str := ["self", "program", "fun", "me"]
def t_m_Machine_init (K : PySem.W.Frag) (w : World)  : TS :=
 (tSeq (sFld K (tVar 0) (tOp (rIxT K) (tCall (sp_numbered K w) [] E0 (tCons (tVar 1) tNil)) (tC (.int 0))) "bodies")
 (tSeq (tFrzS (sFld K (tVar 0) (tLc (iTup K (tOp (rIxT K) (tVar 1) (tC (.int 1)))) (gName 2) tYes (tSl (rSlT K) (tVar 2) tNoPart (tPart (tC (.int 2)))) [2]) "heads"))
 (tSeq (sFld K (tVar 0) (tCB (rListOf K) (tCons (tOp (rIxT K) (tVar 1) (tC (.int 0))) tNil)) "held")
 (tSeq (tFrzS (sFld K (tVar 0) (tLc (iTup K (tOp (rIxT K) (tVar 1) (tC (.int 2)))) (gName 2) tYes (tLst (tCons (tMeth (He.ga K "Machine") "frame" (sp_Machine_frame K w) [] E0 (tVar 0) (tCons (tVar 2) (tCons (tLst tNil) tNil))) tNil)) [2]) "hands"))
 (tSeq (sFld K (tVar 0) (tC (.int 0)) "whose")
 (tSeq (sFld K (tVar 0) (tLst tNil) "talk")
 (tSeq (sFld K (tVar 0) (tC (.int 0)) "done")
 (tSeq (tFor (iRng1 (tCons (tCB (rLenS' K) (tCons (tFld K (tVar 0) "hands") tNil)) tNil)) (gName 3) (tDrop (tMeth (He.ga K "Machine") "settle" (sp_Machine_settle K w) [] E0 (tVar 0) (tCons (tVar 3) tNil))))
 (tDrop (tMeth (He.ga K "Machine") "seek" (sp_Machine_seek K w) [] E0 (tVar 0) tNil))))))))))
theorem pu_m_Machine_init {K : PySem.W.Frag} {w : World} (F : Fcts K) (vs : List V) (H : Hp) (Q : VK) (E : XK) (h : sp_Machine_init K w vs H Q E) : t_m_Machine_init K w { nx := fun _ H' => Q .non H', rt := Q } (start n_m_Machine_init vs) H := by
  obtain ⟨x, dx, vp, p, R, rfl, hH, hp, W, q⟩ := h
  have hpp := hp
  obtain ⟨pa, pc, pf, ph, fvs, rfl, p1, p2, p3, p4, p5⟩ := hpp
  have hfl := p4.len
  refine ⟨_, rfl, p, _, _, rfl, hp, W, hH, fun H1 r b fu bs i1 h1 s1 s2 s3 s4 => ?_⟩
  refine ⟨r, _, 0, _, rfl, rfl, s1, rfl, _, rfl, x, _, dx, _, rfl, h1.head, F.clMachine, F.naMachine_bodies, (by show 0 < 1000; decide), ?_⟩
  have h2 := h1.upd (o' := .ins (He.ga K "Machine") dx (putF "bodies" (.ref b) []))
  have i2 := i1.trans (h1.imm (o' := .ins (He.ga K "Machine") dx (putF "bodies" (.ref b) [])) rfl)
  have j2 := h1.imm (o' := .ins (He.ga K "Machine") dx (putF "bodies" (.ref b) [])) rfl
  have s2 := j2.f s2
  have s3 := s3.mono j2
  generalize upd H1 x (.ins (He.ga K "Machine") dx (putF "bodies" (.ref b) [])) = H2 at h2 i2 s2 s3
  -- heads
  refine ⟨_, rfl, pa, _, 1, _, rfl, rfl, i2.t p1, rfl, pf, rfl, ⟨_, i2.t p3⟩, fun D hD => ?_⟩
  refine lc_it (walk_tup (xs := fvs)) (fun i H3 => ∃ zs, Imm H2 H3 ∧ Holds H3 ((D, .lst zs) :: (x, .ins (He.ga K "Machine") dx (putF "bodies" (.ref b) [])) :: R) ∧ HdsAt K H3 (p.heads.take i) zs ∧ zs.length ≤ i)
    ⟨[], .new hD, h2.new hD, rfl, Nat.le_refl _⟩ (fun i H3 _ ⟨_, im, _⟩ => (i2.trans im).t p3) (fun i u H3 H4 hlt hP hY => ?_) fun H3 hP => ?_
  · obtain ⟨zs, i3, h3, hz, hl⟩ := hP
    obtain ⟨rfl, hu⟩ := hY
    obtain ⟨fn, efn, ga, vb, rfl, g2, _⟩ := p4.get hu
    have g2 := (i2.trans i3).t g2
    refine ⟨rfl, _, rfl, 2, rfl, ga, _, rfl, g2, (by show ¬ (HT.sIx 3 0 none = 0 ∧ HT.sIx 3 3 (some 2) = 3); decide), fun t ht => ?_⟩
    rw [cut2]
    have h4 := h3.skip (o := .tup [.int (fn.params : Nat), .int (fn.names : Nat)]) ht
    have i4 := Imm.new (o := .tup [.int (fn.params : Nat), .int (fn.names : Nat)]) ht
    have := W.funs4
    refine ⟨zs, h4.head, small1000 (by omega), zs ++ [.ref t], i3.trans (i4.trans (h4.imm rfl)), h4.upd, ?_, by rw [List.length_append]; simp only [List.length_singleton]; omega⟩
    have eh : p.heads[i]? = some (fn.params, fn.names) := by rw [Prog.heads, List.getElem?_map, efn]; rfl
    rw [take_snoc eh]
    exact HdsAt.app (hz.mono (i4.trans (h4.imm rfl))) ⟨t, [], rfl, (h4.imm rfl).t (.inl (.inl upd_same)), rfl⟩
  · obtain ⟨hv, i3, h3, hz, _⟩ := hP
    rw [hfl, show p.funs.length = p.heads.length by rw [Prog.heads, List.length_map], List.take_length] at hz
    refine ⟨_, rfl, x, _, dx, _, rfl, h3.tail.head, F.clMachine, F.naMachine_heads, (by show 1 < 1000; decide), ?_⟩
    have h4 := (h3.pull 1 rfl).upd (o' := .ins (He.ga K "Machine") dx (putF "heads" (.ref D) (putF "bodies" (.ref b) [])))
    have i4 : Imm H3 (upd H3 x (.ins (He.ga K "Machine") dx (putF "heads" (.ref D) (putF "bodies" (.ref b) [])))) := Imm.upd h3.tail.head rfl
    have h4' : Holds _ ((x, .ins (He.ga K "Machine") dx (putF "heads" (.ref D) (putF "bodies" (.ref b) []))) :: (D, .lst hv) :: R) := h4
    have hz4 := hz.mono i4
    have i34 := i3.trans i4
    generalize upd H3 x (.ins (He.ga K "Machine") dx (putF "heads" (.ref D) (putF "bodies" (.ref b) []))) = H4 at h4' hz4 i34
    refine ⟨fun z => z = D, fun H5 fz => ?_⟩
    have i5 := Imm.frzd fz
    have hD5 := sqf_of (K := K) fz (a := D) rfl h4'.tail.head
    have h5 : Holds H5 ((x, .ins (He.ga K "Machine") dx (putF "heads" (.ref D) (putF "bodies" (.ref b) []))) :: R) := by
      refine Holds.frzd (h4'.del 1) fz fun y hy z => ?_
      rcases List.mem_cons.mp hy with e | e
      · rw [e] at z; exact h4'.ne (List.mem_cons_self ..) z
      · exact h4'.tail.ne e z.symm
    have i25 := i34.trans i5
    have ip5 := i2.trans i25
    -- held
    refine ⟨_, rfl, pa, _, 0, _, rfl, rfl, ip5.t p1, rfl, pc, _, rfl, .inr (ip5.t p2), fun he hhe => ?_⟩
    have h6 := h5.new (o := .lst (p.cells.map V.int)) hhe
    have i6 := Imm.new (o := .lst (p.cells.map V.int)) hhe
    refine ⟨_, rfl, x, _, dx, _, rfl, h6.tail.head, F.clMachine, F.naMachine_held, (by show 2 < 1000; decide), ?_⟩
    have h7 := (h6.pull 1 rfl).upd (o' := .ins (He.ga K "Machine") dx (putF "held" (.ref he) (putF "heads" (.ref D) (putF "bodies" (.ref b) []))))
    have i7 : Imm _ (upd _ x (.ins (He.ga K "Machine") dx (putF "held" (.ref he) (putF "heads" (.ref D) (putF "bodies" (.ref b) []))))) := Imm.upd h6.tail.head rfl
    have h7' : Holds _ ((x, .ins (He.ga K "Machine") dx (putF "held" (.ref he) (putF "heads" (.ref D) (putF "bodies" (.ref b) [])))) :: (he, .lst (p.cells.map V.int)) :: R) := h7
    have i57 := i6.trans i7
    generalize upd (upd H5 he (.lst (p.cells.map V.int))) x (.ins (He.ga K "Machine") dx (putF "held" (.ref he) (putF "heads" (.ref D) (putF "bodies" (.ref b) [])))) = H7 at h7' i57
    have i27 := i25.trans i57
    have ip7 := ip5.trans i57
    have hD7 := i57.f hD5
    have hz7 := hz4.mono (i5.trans i57)
    have s2 := i27.f s2
    have s3 := s3.mono i27
    -- hands
    refine ⟨_, rfl, pa, _, 2, _, rfl, rfl, ip7.t p1, rfl, ph, rfl, ⟨_, ip7.t p5⟩, fun D2 hD2 => ?_⟩
    refine lc_it (walk_tup (xs := p.hands.map fun n => V.int (n : Nat))) (fun i H8 => ∃ hls, Imm H7 H8 ∧ Holds H8 ((D2, .lst (hls.map fun y => V.ref y.1)) :: (x, .ins (He.ga K "Machine") dx (putF "held" (.ref he) (putF "heads" (.ref D) (putF "bodies" (.ref b) [])))) :: (he, .lst (p.cells.map V.int)) :: (handsC K hls (p.hands0.take i) ++ R)) ∧
        HsAt K H8 hls (p.hands0.take i))
      ⟨[], .new hD2, h7'.new hD2, trivial⟩ (fun i H8 _ ⟨_, im, _⟩ => (ip7.trans im).t p5) (fun i u H8 H9 hlt hP hY => ?_) fun H8 hP => ?_
    · obtain ⟨hls, i8, h8, hs8⟩ := hP
      obtain ⟨rfl, hu⟩ := hY
      rw [List.length_map] at hlt
      obtain ⟨fn, efn⟩ : ∃ fn, p.hands[i]? = some fn := ⟨_, List.getElem?_eq_getElem hlt⟩
      rw [List.getElem?_map, efn] at hu
      have hu : u = .int (fn : Nat) := (Option.some.inj hu).symm
      subst hu
      obtain ⟨_, _, hdr, ehd, eh1, eh2⟩ := Prog.hand_ok W (List.mem_of_getElem? efn)
      have hfl2 : fn < p.heads.length := (List.getElem?_eq_some_iff.mp ehd).1
      have h3 := W.hands3
      have hll := hs8.len
      rw [List.length_take] at hll
      refine ⟨rfl, _, rfl, x, dx, _, rfl, h8.tail.head, by kernel_rfl, _, rfl, Nat.zero_le _, fun wa hwa => ?_⟩
      have h9 := h8.new (o := .lst []) hwa
      have i9 := i8.trans (Imm.new (o := .lst []) hwa)
      refine ⟨x, dx, D, b, wa, _, hv, bs, p.heads, p.nbodies, fn, hdr, [], _, rfl, h9.pull 2 rfl |>.pull 1 rfl, by kernel_rfl, by kernel_rfl, i9.f hD7, hz7.mono i9, i9.f s2, s3.mono i9, ehd, by rw [(p.bdOk W).len]; exact hfl2, Nat.zero_le _, eh2, fun H10 fg i10 h10 t10 => ?_⟩
      refine ⟨(by show 1 ≤ sizeLine; decide), fun hl hhl => ?_⟩
      have h11 := h10.new (o := .lst [.ref fg.x]) hhl
      have i11 := Imm.new (o := .lst [.ref fg.x]) hhl
      have h12 : Holds _ ((D2, .lst (hls.map fun y => V.ref y.1)) :: (hl, .lst [.ref fg.x]) :: (frC K fg (mkFrame p.nbodies p.heads fn []) ++ ((x, .ins (He.ga K "Machine") dx (putF "held" (.ref he) (putF "heads" (.ref D) (putF "bodies" (.ref b) [])))) :: (he, .lst (p.cells.map V.int)) :: (handsC K hls (p.hands0.take i) ++ R)))) := h11.pull 5 rfl
      have e0 : p.hands0[i]? = some [mkFrame p.nbodies p.heads fn []] := by rw [Prog.hands0, List.getElem?_map, efn]; rfl
      refine ⟨_, h12.head, ?_, hls ++ [(hl, [fg])], i9.trans (i10.trans (i11.trans (h12.imm rfl))), ?_, ?_⟩
      · rw [List.length_map]; exact small1000 (by omega)
      · rw [take_snoc e0, handsC_snoc hs8.len, List.map_append]
        refine (h12.upd (o' := .lst (hls.map (fun y => V.ref y.1) ++ [.ref hl]))).perm (List.Perm.cons _ ?_)
        show List.Perm ([(hl, HO.lst [.ref fg.x]), (fg.x, _), (fg.na, _), (fg.ta, _)] ++ ([(x, _), (he, _)] ++ (handsC K hls _ ++ R))) ([(x, _), (he, _)] ++ ((handsC K hls _ ++ [(hl, HO.lst [.ref fg.x]), (fg.x, _), (fg.na, _), (fg.ta, _)]) ++ R))
        refine (List.perm_append_comm_assoc _ _ _).trans (List.Perm.append_left _ ?_)
        rw [List.append_assoc]
        exact List.perm_append_comm_assoc _ _ _
      · rw [take_snoc e0]
        exact HsAt.snoc (hs8.mono (((Imm.new hwa).trans i10).trans (i11.trans (h12.imm rfl)))) ⟨t10.mono (i11.trans (h12.imm rfl)), trivial⟩
    · obtain ⟨hls, i8, h8, hs8⟩ := hP
      rw [List.length_map, show p.hands.length = p.hands0.length by rw [Prog.hands0, List.length_map], List.take_length] at hs8 h8
      have hll := hs8.len
      have h0l : p.hands0.length = p.hands.length := by rw [Prog.hands0, List.length_map]
      refine ⟨_, rfl, x, _, dx, _, rfl, h8.tail.head, F.clMachine, F.naMachine_hands, (by show 3 < 1000; decide), ?_⟩
      have h9 := (h8.pull 1 rfl).upd (o' := .ins (He.ga K "Machine") dx (putF "hands" (.ref D2) (putF "held" (.ref he) (putF "heads" (.ref D) (putF "bodies" (.ref b) [])))))
      have i9 : Imm _ (upd _ x (.ins (He.ga K "Machine") dx (putF "hands" (.ref D2) (putF "held" (.ref he) (putF "heads" (.ref D) (putF "bodies" (.ref b) [])))))) := Imm.upd h8.tail.head rfl
      have h9' : Holds _ ((x, .ins (He.ga K "Machine") dx (putF "hands" (.ref D2) (putF "held" (.ref he) (putF "heads" (.ref D) (putF "bodies" (.ref b) []))))) :: (D2, .lst (hls.map fun y => V.ref y.1)) :: (he, .lst (p.cells.map V.int)) :: (handsC K hls p.hands0 ++ R)) := h9
      have i79 := i8.trans i9
      have hs9 := hs8.mono i9
      generalize upd H8 x (.ins (He.ga K "Machine") dx (putF "hands" (.ref D2) (putF "held" (.ref he) (putF "heads" (.ref D) (putF "bodies" (.ref b) []))))) = H9 at h9' i79 hs9
      refine ⟨fun z => z = D2, fun H10 fz => ?_⟩
      have i10 := Imm.frzd fz
      have hD10 := sqf_of (K := K) fz (a := D2) rfl h9'.tail.head
      have h10 : Holds H10 ((x, .ins (He.ga K "Machine") dx (putF "hands" (.ref D2) (putF "held" (.ref he) (putF "heads" (.ref D) (putF "bodies" (.ref b) []))))) :: (he, .lst (p.cells.map V.int)) :: (handsC K hls p.hands0 ++ R)) := by
        refine Holds.frzd (h9'.del 1) fz fun y hy z => ?_
        rcases List.mem_cons.mp hy with e | e
        · rw [e] at z; exact h9'.ne (List.mem_cons_self ..) z
        · exact h9'.tail.ne e z.symm
      -- whose, talk, done
      refine ⟨_, rfl, x, _, dx, _, rfl, h10.head, F.clMachine, F.naMachine_whose, (by show 4 < 1000; decide), ?_⟩
      have h11 := h10.upd (o' := .ins (He.ga K "Machine") dx (putF "whose" (.int 0) (putF "hands" (.ref D2) (putF "held" (.ref he) (putF "heads" (.ref D) (putF "bodies" (.ref b) []))))))
      have i11 := h10.imm (o' := .ins (He.ga K "Machine") dx (putF "whose" (.int 0) (putF "hands" (.ref D2) (putF "held" (.ref he) (putF "heads" (.ref D) (putF "bodies" (.ref b) [])))))) rfl
      refine ⟨Nat.zero_le _, fun ta hta => ?_⟩
      have h12 := h11.new (o := .lst []) hta
      have i12 := Imm.new (o := .lst []) hta
      refine ⟨_, rfl, x, _, dx, _, rfl, h12.tail.head, F.clMachine, F.naMachine_talk, (by show 5 < 1000; decide), ?_⟩
      have h13 := (h12.pull 1 rfl).upd (o' := .ins (He.ga K "Machine") dx (putF "talk" (.ref ta) (putF "whose" (.int 0) (putF "hands" (.ref D2) (putF "held" (.ref he) (putF "heads" (.ref D) (putF "bodies" (.ref b) [])))))))
      have i13 : Imm _ (upd _ x (.ins (He.ga K "Machine") dx (putF "talk" (.ref ta) (putF "whose" (.int 0) (putF "hands" (.ref D2) (putF "held" (.ref he) (putF "heads" (.ref D) (putF "bodies" (.ref b) [])))))))) := Imm.upd h12.tail.head rfl
      refine ⟨_, rfl, x, _, dx, _, rfl, h13.head, F.clMachine, F.naMachine_done, (by show 6 < 1000; decide), ?_⟩
      rw [show putF "done" (.int 0) (putF "talk" (.ref ta) (putF "whose" (.int 0) (putF "hands" (.ref D2) (putF "held" (.ref he) (putF "heads" (.ref D) (putF "bodies" (.ref b) [])))))) = flMachine (.ref b) (.ref D) (.ref he) (.ref D2) (.int 0) (.ref ta) (.int 0) from inMachine]
      have h14 := h13.upd (o' := .ins (He.ga K "Machine") dx (flMachine (.ref b) (.ref D) (.ref he) (.ref D2) (.int 0) (.ref ta) (.int 0)))
      have i14 := i10.trans (i11.trans (i12.trans (i13.trans (h13.imm (o' := .ins (He.ga K "Machine") dx (flMachine (.ref b) (.ref D) (.ref he) (.ref D2) (.int 0) (.ref ta) (.int 0))) rfl))))
      have j14 := i11.trans (i12.trans (i13.trans (h13.imm (o' := .ins (He.ga K "Machine") dx (flMachine (.ref b) (.ref D) (.ref he) (.ref D2) (.int 0) (.ref ta) (.int 0))) rfl)))
      have h14' : Holds _ ((x, mO' K dx (.ref b) (.ref D) (.ref he) D2 (.int 0) (.ref ta) (.int 0)) :: (ta, .lst []) :: (he, .lst (p.cells.map V.int)) :: (handsC K hls p.hands0 ++ R)) := h14
      generalize upd (upd (upd (upd H10 x _) ta _) x _) x (.ins (He.ga K "Machine") dx (flMachine (.ref b) (.ref D) (.ref he) (.ref D2) (.int 0) (.ref ta) (.int 0))) = H14 at h14' i14 j14
      have h14'' : Holds H14 ((x, mO' K dx (.ref b) (.ref D) (.ref he) D2 (.int 0) (.ref ta) (.int 0)) :: (he, .lst (p.cells.map V.int)) :: (ta, .lst []) :: (handsC K hls p.hands0 ++ R)) := h14'.perm (List.Perm.cons _ (List.Perm.swap ..))
      have hD14 := j14.f hD10
      have hs14 := hs9.mono i14
      have ip14 := i79.trans i14
      have hl3 := W.hands3
      -- the settling
      have hln : (hls.map fun y => V.ref y.1).length = p.hands0.length := by rw [List.length_map]; exact hll
      refine ⟨_, rfl, x, _, dx, _, _, rfl, h14''.head, F.clMachine, F.naMachine_hands, lkMachine_hands, D2, _, rfl, .inl hD14.l, _, rfl, by omega, by omega, ?_⟩
      rw [show (((hls.map fun y => V.ref y.1).length : Nat) : Int).toNat = p.hands0.length by rw [hln]; rfl]
      refine for_it walk_range (fun i σ H1 => ∃ hls1 v, σ = [some (.ref x), some (.ref pa), none, v] ∧ Imm H14 H1 ∧ hls1.map (fun y => V.ref y.1) = hls.map (fun y => V.ref y.1) ∧
          Holds H1 ((x, mO' K dx (.ref b) (.ref D) (.ref he) D2 (.int 0) (.ref ta) (.int 0)) :: (he, .lst (p.cells.map V.int)) :: (ta, .lst []) :: (handsC K hls1 ((p.hands0.take i).map settle ++ p.hands0.drop i) ++ R)) ∧ HsAt K H1 hls1 ((p.hands0.take i).map settle ++ p.hands0.drop i))
        ⟨hls, _, rfl, .refl _, rfl, h14'', hs14⟩ (fun _ _ _ _ _ => trivial) (fun i vi σ H1 H2 hlt hP hY => ?_) fun σ H1 hP => ?_
      · obtain ⟨hls1, v1, rfl, im, em, hh, hhs⟩ := hP
        obtain ⟨rfl, hv2⟩ := hY
        have hv2 : vi = V.int (i : Nat) := by rw [hv2]; show V.int (0 + _) = _; rw [Int.zero_add]
        subst hv2
        obtain ⟨fs, efs⟩ : ∃ fs, p.hands0[i]? = some fs := ⟨_, List.getElem?_eq_getElem hlt⟩
        obtain ⟨hl, gs, Rest, a1, a2, a3, a4, a5⟩ := hands_split hhs (getFrom _ efs)
        have eat : (hls.map fun y => V.ref y.1)[i]? = some (.ref hl) := by rw [← em, List.getElem?_map, a1]; rfl
        have hfo : SetOk fs := by
          rw [Prog.hands0, List.getElem?_map] at efs
          cases e : p.hands[i]? with
          | none => rw [e] at efs; cases efs
          | some fn =>
            rw [e] at efs
            rw [← Option.some.inj efs]
            exact (Prog.hand_ok W (List.mem_of_getElem? e)).1
        have hh2 : Holds H2 ((x, mO' K dx (.ref b) (.ref D) (.ref he) D2 (.int 0) (.ref ta) (.int 0)) :: (he, .lst (p.cells.map V.int)) :: (ta, .lst []) :: (hC K hl gs fs ++ (Rest ++ R))) := by
          refine hh.perm (((List.Perm.append_right R a3).cons _).cons _ |>.cons _ |>.trans ?_)
          rw [List.append_assoc]
        refine ⟨_, rfl, x, dx, _, rfl, hh2.head, nmMachine_settle, _, rfl, ?_⟩
        refine ⟨x, dx, D2, hl, _, _, _, _, _, _, _, i, gs, fs, (he, .lst (p.cells.map V.int)) :: (ta, .lst []) :: (Rest ++ R), rfl, in3 hh2, im.f hD14, eat, a2, hfo, fun H3 gs' i3 h3 F3 => ?_⟩
        refine ⟨hls1.set i (hl, gs'), _, rfl, im.trans i3, ?_, ?_, ?_⟩
        · rw [← em]
          refine List.ext_getElem? fun j => ?_
          rw [List.getElem?_map, List.getElem?_map, List.getElem?_set]
          split
          · rename_i e
            subst e
            rw [a1]
            have := (List.getElem?_eq_some_iff.mp a1).1
            simp [this]
          · rfl
        · rw [← settleFrom _ efs]
          refine (out3 h3).perm ?_
          refine ((List.Perm.append_right R (a4 gs' (settle fs))).symm.cons _).cons _ |>.cons _ |> (List.Perm.trans ?_)
          rw [List.append_assoc]
        · rw [← settleFrom _ efs]
          exact a5 H3 gs' _ i3 F3
      · obtain ⟨hls1, v1, rfl, im, em, hh, hhs⟩ := hP
        rw [List.take_length, List.drop_length, List.append_nil] at hh hhs
        refine ⟨_, rfl, x, dx, _, rfl, hh.head, nmMachine_seek, ?_⟩
        have ehs : p.hands0.map settle = p.mach.hands := by
          show (p.hands.map _).map settle = p.hands.map _
          rw [List.map_map]; rfl
        have hl1 := W.hands1
        have ipf := ip14.trans im
        have MA : ∀ {H'}, Imm H1 H' → MAt K H' ⟨x, dx, b, D, he, D2, ta, bs, hv, hls1, []⟩ p.mach := fun i => by
          have i := ipf.trans i
          exact ⟨i.f s2, s3.mono i, i.f hD7, hz7.mono i, by show SqF K _ D2 (hls1.map _); rw [em]; exact (im.trans (by assumption)).f hD14, by rw [← ehs]; exact hhs.mono (by assumption), rfl⟩
        refine ⟨⟨x, dx, b, D, he, D2, ta, bs, hv, hls1, []⟩, { p.mach with whose := 0 }, R, rfl, ?_, ?_, ?_, ?_, fun H2 i2 h2 => ?_⟩
        · show Holds H1 (_ :: _ :: _ :: (handsC K hls1 p.mach.hands ++ R))
          rw [← ehs]; exact hh
        · have := MA (.refl H1); exact ⟨this.bf, this.b, this.hf, this.h, this.sf, this.s, this.t⟩
        · show 0 < p.mach.hands.length; rw [← ehs, List.length_map, h0l]; omega
        · show p.mach.hands.length ≤ 3; rw [← ehs, List.length_map, h0l]; omega
        · exact q H2 ⟨x, dx, b, D, he, D2, ta, bs, hv, hls1, []⟩ rfl (ip7.trans (ipf.trans i2)) h2 (MA i2)
end SD
set_option Elab.async false
set_option linter.all false
set_option maxRecDepth 100000
set_option maxHeartbeats 4000000
namespace SD
open PySem PySem.Spec PyProof.Rows L2
theorem Holds.sub {H : Hp} {L L' : List (Addr × HO)} (h : Holds H L) (s : L'.Sublist L) : Holds H L' := ⟨(s.map _).nodup h.nd, fun p m => h.at_ p (s.subset m)⟩
/-! ### need_count, plain -/
def sp_need_count (K : PySem.W.Frag) (w : World) : Sp := fun vs H Q _ => ∃ many : Int, vs = [.int many] ∧ 0 ≤ many ∧ many ≤ 2000 ∧ Q .non H
abbrev n_f_need_count : List Str := ["many"]
def t_f_need_count (K : PySem.W.Frag) (w : World)  : TS :=
 (tIfS (tNot (tTest (tChain (rI0 fun i j => .bl (decide (i ≤ j))) (rI0 fun i j => .bl (decide (i ≤ j))) (tC (.int 0)) (tVar 0) (tC (.int 2000))))) tNever tNext)
theorem pu_f_need_count {K : PySem.W.Frag} {w : World} (vs : List V) (H : Hp) (Q : VK) (E : XK) (h : sp_need_count K w vs H Q E) : t_f_need_count K w { nx := fun _ H' => Q .non H', rt := Q } (start n_f_need_count vs) H := by
  obtain ⟨many, rfl, h0, h1, q⟩ := h
  refine ⟨_, rfl, _, _, rfl, rfl, _, rfl, iteDT h0 ⟨_, _, rfl, rfl, _, rfl, iteNF h1 q⟩⟩
theorem runN_over {n : Nat} {M : Mach} (h : M.isOver = true) : runN n M = M := by
  cases n with
  | zero => rfl
  | succ n => simp [runN, h]
def sp_plain (K : PySem.W.Frag) (w : World) : Sp := fun vs H Q _ => ∃ (p : Prog) (vp : V) (many : Nat) (R : List (Addr × HO)), vs = [vp, .int (many : Nat)] ∧ ProgAt K H p vp ∧ p.Wf ∧ many ≤ 2000 ∧ Holds H R ∧
  ∀ H' r ta he tv, Imm H H' → SqT K H' r [.ref ta, .ref he, .bl (runN many p.mach).isOver, .int ((runN many p.mach).done : Nat)] → Holds H' ((ta, .lst tv) :: (he, .lst ((runN many p.mach).held.map V.int)) :: R) → TalkAt K H' (runN many p.mach).talk tv → Q (.ref r) H'
theorem deed_done {M : Mach} {f : Fr} {r : List Fr} {d : ND} {t : List Task} (e : M.hands[M.whose]? = some (f :: r)) (ht : f.todo = .deed d :: t) : M.deed.done = M.done + 1 := by rw [Mach.deed_eq e ht]
abbrev n_f_plain : List Str := ["program", "many", "machine"]
def t_f_plain (K : PySem.W.Frag) (w : World)  : TS :=
 (tSeq (tDrop (tCall (sp_need_program K w) [] E0 (tCons (tVar 0) tNil)))
 (tSeq (tDrop (tCall (sp_need_count K w) [] E0 (tCons (tVar 1) tNil)))
 (tSeq (tAsg (tMake (He.ga K "Machine") (sp_Machine_init K w) [] E0 (tCons (tVar 0) tNil)) (gName 2))
 (tSeq (tWhile (tAnd (tNot (tB (tMeth (He.ga K "Machine") "is_over" (sp_Machine_is_over K w) [] E0 (tVar 2) tNil))) (tTest (tOp (rI0 fun i j => .bl (decide (i < j))) (xfMachine_done K (tVar 2)) (tVar 1)))) (tDrop (tMeth (He.ga K "Machine") "deed" (sp_Machine_deed K w) [] E0 (tVar 2) tNil)))
 (tRet (tTup (tCons (xfMachine_talk K (tVar 2)) (tCons (xfMachine_held K (tVar 2)) (tCons (tMeth (He.ga K "Machine") "is_over" (sp_Machine_is_over K w) [] E0 (tVar 2) tNil) (tCons (xfMachine_done K (tVar 2)) tNil))))))))))
theorem pu_f_plain {K : PySem.W.Frag} {w : World} (vs : List V) (H : Hp) (Q : VK) (E : XK) (h : sp_plain K w vs H Q E) : t_f_plain K w { nx := fun _ H' => Q .non H', rt := Q } (start n_f_plain vs) H := by
  obtain ⟨p, vp, many, R, rfl, hp, W, hm, hH, q⟩ := h
  refine ⟨_, rfl, p, vp, R, rfl, hp, W, hH, fun H1 i1 hH1 => ?_⟩
  refine ⟨_, rfl, _, rfl, by omega, by omega, ?_⟩
  refine ⟨_, rfl, fun x dx hx hdx hne => ?_⟩
  have hx2 : upd H1 dx (.own x) x = none := by rw [upd_ne hne.symm]; exact hx
  have hh := (hH1.skip (o := .own x) hdx).new (o := .ins (He.ga K "Machine") dx []) hx2
  have i2 := (Imm.new (o := .own x) hdx).trans (Imm.new (o := .ins (He.ga K "Machine") dx []) hx2)
  refine ⟨x, dx, vp, p, R, rfl, hh, (hp.mono i1).mono i2, W, fun H2 g eg i3 h3 A3 => ⟨rfl, ?_⟩⟩
  subst eg
  have hdd : p.mach.done = 0 := rfl
  refine ⟨fun n σ H3 => ∃ g' M k, n = many - M.done ∧ σ = [some vp, some (.int (many : Nat)), some (.ref g.m)] ∧ g'.m = g.m ∧ Imm H2 H3 ∧ Holds H3 (mC K g' M ++ R) ∧ MAt K H3 g' M ∧ MOk M ∧ MNx M ∧ M.done ≤ many ∧ runN (many - M.done) M = runN many p.mach,
    ⟨_, g, p.mach, 0, rfl, rfl, rfl, .refl _, h3, A3, Prog.mach_ok W, Prog.mach_nx W, by rw [hdd]; omega, by rw [hdd]; rfl⟩, ?_⟩
  rintro n σ H3 ⟨g', M, k, rfl, rfl, eg, i4, h4, A4, ok, nx, hd, er⟩
  have h4m := h4.head
  rw [eg] at h4m
  refine ⟨_, rfl, g.m, g'.dx, _, rfl, h4m, nmMachine_is_over, ?_⟩
  refine ⟨g', M, R, by rw [eg]; rfl, h4, A4, ok.h3, fun H4 s5 => ?_⟩
  have i5 := i4.trans (Imm.same s5)
  have h5 := h4.same s5
  have A5 := A4.mono (Imm.same s5)
  have h5m := h5.head
  rw [eg] at h5m
  refine ⟨_, rfl, ?_⟩
  have fin : M.isOver = true ∨ M.done = many → runN many p.mach = M := fun h => by
    rw [← er]
    rcases h with h | h
    · exact runN_over h
    · rw [h, Nat.sub_self]; rfl
  have final : runN many p.mach = M → ∀ H5, Same H4 H5 → (tRet (tTup (tCons (xfMachine_talk K (tVar 2)) (tCons (xfMachine_held K (tVar 2)) (tCons (tMeth (He.ga K "Machine") "is_over" (sp_Machine_is_over K w) [] E0 (tVar 2) tNil) (tCons (xfMachine_done K (tVar 2)) tNil))))))
      { nx := fun _ H' => Q .non H', rt := Q } [some vp, some (.int (many : Nat)), some (.ref g.m)] H5 := by
    intro eM H5 s6
    have h6 := h5.same s6
    have A6 := A5.mono (Imm.same s6)
    have h6m := h6.head
    rw [eg] at h6m
    refine ⟨_, rfl, g.m, g'.dx, _, _, _, _, _, _, _, rfl, h6m, _, rfl, g.m, g'.dx, _, _, _, _, _, _, _, rfl, h6m, _, rfl, g.m, g'.dx, _, rfl, h6m, nmMachine_is_over, ?_⟩
    refine ⟨g', M, R, by rw [eg]; rfl, h6, A6, ok.h3, fun H6 s7 => ?_⟩
    have h7 := h6.same s7
    have A7 := A6.mono (Imm.same s7)
    have h7m := h7.head
    rw [eg] at h7m
    refine ⟨_, rfl, g.m, g'.dx, _, _, _, _, _, _, _, rfl, h7m, (by show 4 ≤ sizeLine; decide), fun r hr => ?_⟩
    have h8 := h7.skip (o := .tup [.ref g'.ta, .ref g'.he, .bl M.isOver, .int (M.done : Nat)]) hr
    have i8 := Imm.new (o := .tup [.ref g'.ta, .ref g'.he, .bl M.isOver, .int (M.done : Nat)]) hr
    rw [eM] at q
    refine q _ r g'.ta g'.he g'.tv (i1.trans (i2.trans (i3.trans (i5.trans ((Imm.same s6).trans ((Imm.same s7).trans i8)))))) (.inl (.inl upd_same)) ?_ (A7.t.mono i8)
    have h9 : Holds _ ((g'.he, .lst (M.held.map V.int)) :: (g'.ta, .lst g'.tv) :: R) := h8.tail.sub (((List.sublist_append_right _ R).cons₂ _).cons₂ _)
    exact h9.perm (List.Perm.swap ..)
  cases ho : M.isOver with
  | true =>
    exact final (fin (.inl ho)) H4 (Same.refl _)
  | false =>
    show if (!false) = true then _ else _
    refine iteT ?_
    refine ⟨_, rfl, g.m, g'.dx, _, _, _, _, _, _, _, rfl, h5m, _, rfl, _, _, rfl, rfl, _, rfl, ?_⟩
    by_cases hlt : M.done < many
    · refine iteDT (by omega) ?_
      obtain ⟨f, r, d, t, e1, e2⟩ := ok.next nx ho
      have hdn := deed_done e1 e2
      have hst : runN (many - M.done) M = runN (many - M.deed.done) M.deed := by
        rw [hdn, show many - M.done = (many - (M.done + 1)) + 1 by omega]
        show (if M.isOver = true then M else runN (many - (M.done + 1)) M.deed) = _
        rw [ho]; rfl
      refine ⟨fun σ' H' => ∃ g1 M1 k, many - M1.done < many - M.done ∧ σ' = [some vp, some (.int (many : Nat)), some (.ref g.m)] ∧ g1.m = g.m ∧ Imm H2 H' ∧ Holds H' (mC K g1 M1 ++ R) ∧ MAt K H' g1 M1 ∧ MOk M1 ∧ MNx M1 ∧ M1.done ≤ many ∧ runN (many - M1.done) M1 = runN many p.mach ∧ k = 0,
        fun σ' H' ⟨g1, M1, k1, b1, b2, b3, b4, b5, b6, b7, b8, b9, b10, b11⟩ => ⟨_, b1, g1, M1, k1, rfl, b2, b3, b4, b5, b6, b7, b8, b9, b10⟩, ?_⟩
      refine ⟨_, rfl, g.m, g'.dx, _, rfl, h5m, nmMachine_deed, ?_⟩
      refine ⟨g', M, R, by rw [eg]; rfl, h5, A5, ok, nx, ho, Nat.lt_of_lt_of_le (by omega : M.done < 2001) (by decide), fun H6 g2 eg2 i6 h6 A6 => ?_⟩
      exact ⟨g2, M.deed, 0, by rw [hdn]; omega, rfl, eg2.trans eg, i5.trans i6, h6, A6, ok.deed e1 e2, MNx.deed ok e1 e2, by rw [hdn]; omega, by rw [← hst]; exact er, rfl⟩
    · refine iteDF (by omega) ?_
      exact final (fin (.inr (by omega))) H4 (Same.refl _)
end SD
set_option Elab.async false
set_option linter.all false
set_option maxRecDepth 100000
set_option maxHeartbeats 4000000
namespace SD
open PySem PySem.Spec PyProof.Rows L2
/-! ### a watched one, plainly -/
structure Stop where
  place : Nat
  hand : Option Nat
  wish : Option Pt
inductive Ev where
  | over | ended (h : Nat) | stop (h p n : Nat) | step (h p : Nat) | paused (h p : Nat)
  deriving DecidableEq
inductive Way where | inn | over | out deriving DecidableEq
def Way.str : Way → Str | .inn => "in" | .over => "over" | .out => "out"
def Mach.place (M : Mach) (k : Nat) : Nat := match M.hands.getD k [] with
  | f :: _ => (match f.todo with | .deed d :: _ => d.place | _ => 0)
  | [] => 0
def Mach.names (M : Mach) (k : Nat) : List Int := match M.hands.getD k [] with
  | f :: _ => f.names
  | [] => []
def Stop.meets (M : Mach) (s : Stop) : Bool := decide (s.place = M.place M.whose) && (s.hand.all fun h => decide (h = M.whose)) && (s.wish.all fun y => decide (y.ev (M.names M.whose) M.held ≠ 0))
structure Wd where
  p : Prog
  M : Mach
  stops : List (Nat × Stop)
  made : Nat
  goal : Option (Nat × Way × Nat)
  left : Nat
  first : Bool
  moved : Bool
def Wd.met (w : Wd) : Option Nat := (w.stops.find? fun s => s.2.meets w.M).map (·.1)
def wayOk : Way → Nat → Nat → Bool
  | .inn, _, _ => true
  | .over, now, deep => decide (now ≤ deep)
  | .out, now, deep => decide (now < deep)
def Wd.reached (w : Wd) : Bool := match w.goal with
  | none => false
  | some g => decide (w.M.whose = g.1) && (w.moved && wayOk g.2.1 (w.M.hands.getD g.1 []).length g.2.2)
def Wd.paused (w : Wd) : Option Ev := if w.left = 0 then some (.paused w.M.whose (w.M.place w.M.whose)) else none
def Wd.rest (w : Wd) : Option Ev := if w.first = true then w.paused else match w.met with
  | some n => some (.stop w.M.whose (w.M.place w.M.whose) n)
  | none => if w.reached = true then some (.step w.M.whose (w.M.place w.M.whose)) else w.paused
def Wd.event (w : Wd) : Option Ev := if w.M.isOver = true then some .over else match w.goal with
  | some g => if (w.M.hands.getD g.1 []).isEmpty = true then some (.ended g.1) else w.rest
  | none => w.rest
def Wd.on (w : Wd) : Wd := { w with first := false, moved := w.moved || (w.goal.any fun g => decide (w.M.whose = g.1)), left := w.left - 1, M := w.M.deed }
def Wd.finish : Nat → Wd → Ev × Wd
  | 0, w => (w.event.getD .over, w)
  | n + 1, w => match w.event with
    | some e => (e, w)
    | none => Wd.finish n w.on
def Wd.begin (w : Wd) (goal : Option (Nat × Way × Nat)) (many : Nat) : Wd := { w with goal := goal, left := many, first := true, moved := false }
def Wd.go (w : Wd) (many : Nat) : Ev × Wd := (w.begin none many).finish many
def Wd.step (w : Wd) (h : Nat) (way : Way) (many : Nat) : Ev × Wd := (w.begin (some (h, way, (w.M.hands.getD h []).length)) many).finish many
def Wd.init (p : Prog) : Wd := ⟨p, p.mach, [], 0, none, 0, true, false⟩
def Wd.stopAt (w : Wd) (s : Stop) : Wd := { w with stops := w.stops ++ [(w.made, s)], made := w.made + 1 }
/-- of a wish -/
def WishOk (p : Prog) (place : Nat) (y : Pt) : Prop := ∃ fn g, p.pfuns[place]? = some fn ∧ p.funs[fn]? = some g ∧ y.wf g.names p.cells.length = true ∧ y.dp ≤ 8 ∧ y.sz ≤ 100
structure WOk (w : Wd) : Prop where
  W : w.p.Wf
  M : MOk w.M
  nx : MNx w.M
  heads : w.M.heads = w.p.heads
  pf : w.M.pf = w.p.pfuns
  cells : w.M.held.length = w.p.cells.length
  few : w.stops.length ≤ 20
  asc : (w.stops.map (·.1)).Pairwise (· < ·)
  low : ∀ s ∈ w.stops, s.1 < w.made
  wish : ∀ s ∈ w.stops, ∀ y, s.2.wish = some y → WishOk w.p s.2.place y
  goal : ∀ g, w.goal = some g → g.1 < w.M.hands.length
theorem Prog.wd_ok {p : Prog} (W : p.Wf) : WOk (Wd.init p) :=
  ⟨W, Prog.mach_ok W, Prog.mach_nx W, rfl, rfl, rfl, Nat.zero_le _, List.Pairwise.nil, (fun s hs => (nomatch hs)), (fun s hs => (nomatch hs)), (fun g h => (nomatch h))⟩
theorem WOk.begin {w : Wd} (o : WOk w) {goal : Option (Nat × Way × Nat)} {many : Nat} (h : ∀ g, goal = some g → g.1 < w.M.hands.length) : WOk (w.begin goal many) :=
  ⟨o.W, o.M, o.nx, o.heads, o.pf, o.cells, o.few, o.asc, o.low, o.wish, h⟩
theorem deed_keeps {M : Mach} {f : Fr} {r : List Fr} {d : ND} {t : List Task} (o : MOk M) (e : M.hands[M.whose]? = some (f :: r)) (ht : f.todo = .deed d :: t) :
    M.deed.heads = M.heads ∧ M.deed.pf = M.pf ∧ M.deed.held.length = M.held.length ∧ M.deed.hands.length = M.hands.length := by
  have D := doDeed_ok (me := M.whose) (o.doOk e ht)
  rw [Mach.deed_eq e ht]
  exact ⟨rfl, rfl, D.cl, List.length_set ..⟩
theorem WOk.on {w : Wd} (o : WOk w) (h : w.M.isOver = false) : WOk w.on := by
  obtain ⟨f, r, d, t, e1, e2⟩ := o.M.next o.nx h
  obtain ⟨k1, k2, k3, k4⟩ := deed_keeps o.M e1 e2
  exact ⟨o.W, o.M.deed e1 e2, MNx.deed o.M e1 e2, k1.trans o.heads, k2.trans o.pf, k3.trans o.cells, o.few, o.asc, o.low, o.wish, fun g hg => by show g.1 < w.M.deed.hands.length; rw [k4]; exact o.goal g hg⟩
theorem Wd.event_over {w : Wd} (h : w.event = none) : w.M.isOver = false := by
  unfold Wd.event at h
  cases e : w.M.isOver with
  | false => rfl
  | true => rw [e] at h; simp at h
theorem WOk.finish : ∀ (n : Nat) {w : Wd}, WOk w → WOk (Wd.finish n w).2
  | 0, w, o => o
  | n + 1, w, o => by
    unfold Wd.finish
    cases e : w.event with
    | some v => exact o
    | none => exact WOk.finish n (o.on (Wd.event_over e))
theorem WOk.stopAt {w : Wd} (o : WOk w) {s : Stop} (h : w.stops.length < 20) (hs : ∀ y, s.wish = some y → WishOk w.p s.place y) : WOk (w.stopAt s) := by
  refine ⟨o.W, o.M, o.nx, o.heads, o.pf, o.cells, ?_, ?_, fun t ht => ?_, fun t ht => ?_, o.goal⟩
  · show (w.stops ++ [_]).length ≤ 20
    rw [List.length_append]; exact h
  · show ((w.stops ++ [_]).map _).Pairwise _
    rw [List.map_append, List.pairwise_append]
    refine ⟨o.asc, List.pairwise_singleton _ _, fun a ha b hb => ?_⟩
    obtain ⟨t, ht, rfl⟩ := List.mem_map.mp ha
    rw [List.mem_singleton.mp hb]
    exact o.low t ht
  · rcases List.mem_append.mp ht with q | q
    · have := o.low t q; show t.1 < w.made + 1; omega
    · rw [List.mem_singleton.mp q]; exact Nat.lt_succ_self _
  · rcases List.mem_append.mp ht with q | q
    · exact o.wish t q
    · rw [List.mem_singleton.mp q]; exact hs
/-- a wish that can be, at the place that is next -/
theorem WOk.wf_here {w : Wd} (o : WOk w) {f : Fr} {r : List Fr} {d : ND} {t : List Task} {y : Pt} (e : w.M.hands[w.M.whose]? = some (f :: r)) (ht : f.todo = .deed d :: t) (h : WishOk w.p d.place y) :
    y.wf f.names.length w.M.held.length = true ∧ y.dp ≤ 8 ∧ Rng f.names := by
  obtain ⟨fn, g, h1, h2, h3, h4, h5⟩ := h
  have D := o.M.doOk e ht
  obtain ⟨p, d', i⟩ := d
  have hf := D.fr _ (List.mem_cons_self ..)
  have hp : w.M.pf[p]? = some f.fn := D.nd.2.2.2.2
  rw [o.pf] at hp
  have efn : fn = f.fn := Option.some.inj (h1.symm.trans hp)
  obtain ⟨hd, e1, e2⟩ := hf.hd
  have e1 : w.M.heads[f.fn]? = some hd := e1
  have e2 : f.names.length = hd.2 := e2
  rw [o.heads] at e1
  obtain ⟨g2, eg, rfl⟩ := heads_get e1
  rw [← efn, h2] at eg
  rw [e2, o.cells, ← Option.some.inj eg]
  exact ⟨h3, h4, hf.rn⟩
theorem place_eq {M : Mach} {k : Nat} {f : Fr} {r : List Fr} {d : ND} {t : List Task} (e : M.hands[k]? = some (f :: r)) (ht : f.todo = .deed d :: t) : M.place k = d.place := by
  unfold Mach.place
  rw [List.getD_eq_getElem?_getD, e]
  simp only [Option.getD_some, ht]
theorem names_eq {M : Mach} {k : Nat} {f : Fr} {r : List Fr} (e : M.hands[k]? = some (f :: r)) : M.names k = f.names := by
  unfold Mach.names
  rw [List.getD_eq_getElem?_getD, e]
  rfl
/-! ### in the heap -/
structure WG where
  w : Addr
  dx : Addr
  vp : V
  fu : Addr
  fv : List V
  st : Addr
  sv : List Addr
  go : V
  g : MG
def handV : Option Nat → V
  | none => .non
  | some k => .int (k : Nat)
def WishAt (K : PySem.W.Frag) (H : Hp) : Option Pt → V → Prop
  | none, v => v = .non
  | some y, v => PtAt K H y v ∧ v ≠ .non
def StopsAt (K : PySem.W.Frag) (H : Hp) : List (Nat × Stop) → List Addr → Prop
  | [], vs => vs = []
  | x :: r, vs => ∃ a s vw, vs = a :: s ∧ SqT K H a [.int (x.2.place : Nat), handV x.2.hand, vw] ∧ WishAt K H x.2.wish vw ∧ StopsAt K H r s
def stK (stops : List (Nat × Stop)) (sv : List Addr) : List (Key × V) := (stops.zip sv).map fun x => (Sum.inl (x.1.1 : Int), V.ref x.2)
def GoalAt (K : PySem.W.Frag) (H : Hp) : Option (Nat × Way × Nat) → V → Prop
  | none, v => v = .non
  | some g, v => ∃ a, v = .ref a ∧ SqT K H a [.int (g.1 : Nat), .str g.2.1.str, .int (g.2.2 : Nat)]
abbrev wOx (K : PySem.W.Frag) (G : WG) (made left : Nat) (first moved : Bool) : HO := .ins (He.ga K "Watched") G.dx (flWatched G.vp (.ref G.fu) (.ref G.g.m) (.ref G.st) (.int (made : Nat)) G.go (.int (left : Nat)) (.bl first) (.bl moved))
abbrev wO (K : PySem.W.Frag) (G : WG) (w : Wd) : HO := wOx K G w.made w.left w.first w.moved
abbrev wC (K : PySem.W.Frag) (G : WG) (w : Wd) : List (Addr × HO) := (G.w, wO K G w) :: (G.st, .dK (stK w.stops G.sv)) :: mC K G.g w.M
structure WAt (K : PySem.W.Frag) (H : Hp) (G : WG) (w : Wd) : Prop where
  p : ProgAt K H w.p G.vp
  f : SqF K H G.fu (w.p.pfuns.map fun n => V.int (n : Nat))
  M : MAt K H G.g w.M
  s : StopsAt K H w.stops G.sv
  g : GoalAt K H w.goal G.go
section
variable {K : PySem.W.Frag} {H H' : Hp}
theorem WishAt.mono (i : Imm H H') {y : Option Pt} {v : V} (h : WishAt K H y v) : WishAt K H' y v := by
  cases y with
  | none => exact h
  | some y => exact ⟨h.1.mono i, h.2⟩
theorem StopsAt.mono (i : Imm H H') : ∀ {t : List (Nat × Stop)} {v : List Addr}, StopsAt K H t v → StopsAt K H' t v
  | [], v, h => h
  | t :: r, v, ⟨a, s, vw, e, h, h1, h2⟩ => ⟨a, s, vw, e, i.t h, h1.mono i, StopsAt.mono i h2⟩
theorem StopsAt.len : ∀ {t : List (Nat × Stop)} {v : List Addr}, StopsAt K H t v → v.length = t.length
  | [], v, h => by rw [show v = [] from h]; rfl
  | t :: r, v, ⟨a, s, vw, e, h, h1, h2⟩ => by rw [e, List.length_cons, List.length_cons, StopsAt.len h2]
theorem StopsAt.get : ∀ {t : List (Nat × Stop)} {v : List Addr} {i : Nat} {x : Nat × Stop}, StopsAt K H t v → t[i]? = some x → ∃ a vw, v[i]? = some a ∧ SqT K H a [.int (x.2.place : Nat), handV x.2.hand, vw] ∧ WishAt K H x.2.wish vw
  | [], v, i, x, h, e => by simp at e
  | t :: r, v, 0, x, ⟨a, s, vw, e, h, h1, h2⟩, e2 => by simp at e2; subst e2; exact ⟨a, vw, by rw [e]; rfl, h, h1⟩
  | t :: r, v, i + 1, x, ⟨a, s, vw, e, h, h1, h2⟩, e2 => by
    obtain ⟨b, vb, e3, h3⟩ := StopsAt.get (i := i) h2 (by simpa using e2)
    exact ⟨b, vb, by rw [e]; simpa using e3, h3⟩
theorem StopsAt.app : ∀ {p q : List (Nat × Stop)} {v u : List Addr}, StopsAt K H p v → StopsAt K H q u → StopsAt K H (p ++ q) (v ++ u)
  | [], q, v, u, h, h2 => by rw [show v = [] from h]; exact h2
  | p :: r, q, v, u, ⟨a, t, vw, e, h, h1, h3⟩, h2 => ⟨a, t ++ u, vw, by rw [e]; rfl, h, h1, StopsAt.app h3 h2⟩
theorem GoalAt.mono (i : Imm H H') {y : Option (Nat × Way × Nat)} {v : V} (h : GoalAt K H y v) : GoalAt K H' y v := by
  cases y with
  | none => exact h
  | some y => obtain ⟨a, e, h⟩ := h; exact ⟨a, e, i.t h⟩
theorem WAt.mono (i : Imm H H') {G : WG} {w : Wd} (h : WAt K H G w) : WAt K H' G w := ⟨h.p.mono i, i.f h.f, h.M.mono i, h.s.mono i, h.g.mono i⟩
end
theorem stK_keys : ∀ {stops : List (Nat × Stop)} {sv : List Addr}, sv.length = stops.length → (stK stops sv).map (·.1) = (stops.map fun s => (s.1 : Int)).map Sum.inl
  | [], _, _ => by simp [stK]
  | x :: r, [], h => by simp at h
  | x :: r, a :: s, h => by
    have := stK_keys (stops := r) (sv := s) (by simpa using h)
    simp only [stK, List.zip_cons_cons, List.map_cons] at this ⊢
    rw [this]
theorem stK_val : ∀ {stops : List (Nat × Stop)} {sv : List Addr} {i : Nat} {x : Nat × Stop} {a : Addr}, (stops.map (·.1)).Pairwise (· < ·) → stops[i]? = some x → sv[i]? = some a → valV (stK stops sv) (Sum.inl (x.1 : Int)) = some (.ref a)
  | [], _, i, x, a, _, e, _ => by simp at e
  | y :: r, [], i, x, a, _, _, e => by simp at e
  | y :: r, b :: s, 0, x, a, _, e1, e2 => by
    simp at e1 e2; subst e1; subst e2
    exact valV_pos (p := ((Sum.inl (y.1 : Int) : Key), V.ref b)) rfl
  | y :: r, b :: s, i + 1, x, a, h, e1, e2 => by
    rw [List.map_cons, List.pairwise_cons] at h
    have hx : x.1 ∈ r.map (·.1) := List.mem_map.mpr ⟨x, List.mem_of_getElem? (by simpa using e1), rfl⟩
    have hlt := h.1 _ hx
    refine (valV_neg (p := ((Sum.inl (y.1 : Int) : Key), V.ref b)) (fun e => ?_)).trans (stK_val (i := i) h.2 (by simpa using e1) (by simpa using e2))
    have := Sum.inl.inj e
    omega
theorem stK_none : ∀ {stops : List (Nat × Stop)} {sv : List Addr} {n : Nat}, (∀ s ∈ stops, s.1 < n) → valV (stK stops sv) (Sum.inl (n : Int)) = none
  | [], _, n, _ => by simp [stK, valV]
  | y :: r, [], n, _ => by simp [stK, valV]
  | y :: r, b :: s, n, h => by
    have h1 := h y (List.mem_cons_self ..)
    refine (valV_neg (p := ((Sum.inl (y.1 : Int) : Key), V.ref b)) (fun e => ?_)).trans (stK_none (stops := r) (sv := s) fun t ht => h t (List.mem_cons_of_mem _ ht))
    have := Sum.inl.inj e
    omega
theorem stK_snoc {stops : List (Nat × Stop)} {sv : List Addr} (h : sv.length = stops.length) (x : Nat × Stop) (a : Addr) : stK (stops ++ [x]) (sv ++ [a]) = stK stops sv ++ [(Sum.inl (x.1 : Int), .ref a)] := by
  unfold stK
  rw [List.zip_append h.symm, List.map_append]; rfl
end SD
set_option Elab.async false
set_option linter.all false
set_option maxRecDepth 100000
set_option maxHeartbeats 4000000
namespace SD
open PySem PySem.Spec PyProof.Rows L2
/-! ### need_hand, begin, need_go -/
def sp_Watched_need_hand (K : PySem.W.Frag) (w : World) : Sp := fun vs H Q _ => ∃ (G : WG) (W : Wd) (R : List (Addr × HO)) (k : Nat), vs = [.ref G.w, .int (k : Nat)] ∧ Holds H (wC K G W ++ R) ∧ WAt K H G W ∧ k < W.M.hands.length ∧ Q .non H
abbrev n_m_Watched_need_hand : List Str := ["self", "hand"]
def t_m_Watched_need_hand (K : PySem.W.Frag) (w : World)  : TS :=
 (tIfS (tOr (tNot (tB (tCall (sp_is_number K w) [] E0 (tCons (tVar 1) tNil)))) (tNot (tTest (tChain (rI0 fun i j => .bl (decide (i ≤ j))) (rI0 fun i j => .bl (decide (i < j))) (tC (.int 0)) (tVar 1) (tCB (rLenS' K) (tCons (xfMachine_hands K (xfWatched_machine K (tVar 0))) tNil)))))) tNever tNext)
theorem pu_m_Watched_need_hand {K : PySem.W.Frag} {w : World} (vs : List V) (H : Hp) (Q : VK) (E : XK) (h : sp_Watched_need_hand K w vs H Q E) : t_m_Watched_need_hand K w { nx := fun _ H' => Q .non H', rt := Q } (start n_m_Watched_need_hand vs) H := by
  obtain ⟨G, W, R, k, rfl, hH, hA, hk, q⟩ := h
  have hsl : G.g.hsv.length = W.M.hands.length := by rw [MG.hsv, List.length_map]; exact hA.M.s.len
  refine ⟨_, rfl, _, rfl, _, rfl, ?_⟩
  show if (!true) = true then _ else _
  refine iteF ?_
  refine ⟨_, rfl, _, _, rfl, rfl, _, rfl, iteDT (by omega) ⟨_, rfl, G.w, G.dx, _, _, _, _, _, _, _, _, _, rfl, hH.head, G.g.m, G.g.dx, _, _, _, _, _, _, _, rfl, hH.tail.tail.head, _, _, rfl, .inl hA.M.sf.l, _, _, rfl, rfl, _, rfl, iteNF (by rw [hsl]; omega) q⟩⟩
def sp_Watched_begin (K : PySem.W.Frag) (w : World) : Sp := fun vs H Q _ => ∃ (G : WG) (W : Wd) (R : List (Addr × HO)) (goal : Option (Nat × Way × Nat)) (gv : V) (many : Nat), vs = [.ref G.w, gv, .int (many : Nat)] ∧ Holds H (wC K G W ++ R) ∧ WAt K H G W ∧ GoalAt K H goal gv ∧
  ∀ H', Imm H H' → Holds H' (wC K { G with go := gv } (W.begin goal many) ++ R) → WAt K H' { G with go := gv } (W.begin goal many) → Q .non H'
abbrev n_m_Watched_begin : List Str := ["self", "goal", "many"]
def t_m_Watched_begin (K : PySem.W.Frag) (w : World)  : TS :=
 (tSeq (xsWatched_goal K (tVar 0) (tVar 1))
 (tSeq (xsWatched_left K (tVar 0) (tVar 2))
 (tSeq (xsWatched_first K (tVar 0) (tC (.bl true)))
 (xsWatched_moved K (tVar 0) (tC (.bl false))))))
theorem pu_m_Watched_begin {K : PySem.W.Frag} {w : World} (vs : List V) (H : Hp) (Q : VK) (E : XK) (h : sp_Watched_begin K w vs H Q E) : t_m_Watched_begin K w { nx := fun _ H' => Q .non H', rt := Q } (start n_m_Watched_begin vs) H := by
  obtain ⟨G, W, R, goal, gv, many, rfl, hH, hA, hg, q⟩ := h
  refine ⟨_, rfl, _, rfl, G.w, G.dx, _, _, _, _, _, _, _, _, _, rfl, hH.head, ?_⟩
  have h1 := hH.upd (o' := wOx K { G with go := gv } W.made W.left W.first W.moved)
  have i1 := hH.imm (o' := wOx K { G with go := gv } W.made W.left W.first W.moved) rfl
  refine ⟨_, rfl, _, rfl, G.w, G.dx, _, _, _, _, _, _, _, _, _, rfl, h1.head, ?_⟩
  have h2 := h1.upd (o' := wOx K { G with go := gv } W.made many W.first W.moved)
  have i2 := i1.trans (h1.imm (o' := wOx K { G with go := gv } W.made many W.first W.moved) rfl)
  refine ⟨_, rfl, G.w, G.dx, _, _, _, _, _, _, _, _, _, rfl, h2.head, ?_⟩
  have h3 := h2.upd (o' := wOx K { G with go := gv } W.made many true W.moved)
  have i3 := i2.trans (h2.imm (o' := wOx K { G with go := gv } W.made many true W.moved) rfl)
  refine ⟨_, rfl, G.w, G.dx, _, _, _, _, _, _, _, _, _, rfl, h3.head, ?_⟩
  have h4 := h3.upd (o' := wOx K { G with go := gv } W.made many true false)
  have i4 := i3.trans (h3.imm (o' := wOx K { G with go := gv } W.made many true false) rfl)
  have A4 := hA.mono i4
  exact q _ i4 h4 ⟨A4.p, A4.f, A4.M, A4.s, hg.mono i4⟩
def sp_Watched_need_go (K : PySem.W.Frag) (w : World) : Sp := fun vs H Q _ => ∃ (G : WG) (W : Wd) (R : List (Addr × HO)) (many : Nat), vs = [.ref G.w, .int (many : Nat)] ∧ Holds H (wC K G W ++ R) ∧ WAt K H G W ∧ W.M.hands.length ≤ 3 ∧ many ≤ 2000 ∧ W.M.isOver = false ∧ ∀ H', Same H H' → Q .non H'
abbrev n_m_Watched_need_go : List Str := ["self", "many"]
def t_m_Watched_need_go (K : PySem.W.Frag) (w : World)  : TS :=
 (tSeq (tDrop (tCall (sp_need_count K w) [] E0 (tCons (tVar 1) tNil)))
 (tIfS (tB (tMeth (He.ga K "Machine") "is_over" (sp_Machine_is_over K w) [] E0 (xfWatched_machine K (tVar 0)) tNil)) tNever tNext))
theorem pu_m_Watched_need_go {K : PySem.W.Frag} {w : World} (vs : List V) (H : Hp) (Q : VK) (E : XK) (h : sp_Watched_need_go K w vs H Q E) : t_m_Watched_need_go K w { nx := fun _ H' => Q .non H', rt := Q } (start n_m_Watched_need_go vs) H := by
  obtain ⟨G, W, R, many, rfl, hH, hA, h3, hm, ho, q⟩ := h
  refine ⟨_, rfl, _, rfl, by omega, by omega, ?_⟩
  refine ⟨_, rfl, G.w, G.dx, _, _, _, _, _, _, _, _, _, rfl, hH.head, G.g.m, G.g.dx, _, rfl, hH.tail.tail.head, nmMachine_is_over, ?_⟩
  refine ⟨G.g, W.M, R, rfl, hH.tail.tail, hA.M, h3, fun H' s => ⟨_, rfl, ?_⟩⟩
  rw [ho]
  exact iteF (q H' s)
/-! ### met -/
theorem flat_hand (h : Option Nat) : flatV (handV h) = true := by cases h <;> rfl
theorem in_hand (h : Option Nat) (me : Nat) : inV (handV h) [.non, .int (me : Nat)] = (h.all fun k => decide (k = me)) := by
  cases h with
  | none => rfl
  | some k =>
    by_cases e : k = me
    · subst e; simp [inV, handV, eqV]
    · simp [inV, handV, eqV, e]; omega
def sp_Watched_met (K : PySem.W.Frag) (w : World) : Sp := fun vs H Q _ => ∃ (G : WG) (W : Wd) (R : List (Addr × HO)), vs = [.ref G.w] ∧ Holds H (wC K G W ++ R) ∧ WAt K H G W ∧ WOk W ∧ W.M.isOver = false ∧
  ∀ H', Same H H' → Q (match W.met with | some n => .int (n : Nat) | none => .non) H'
theorem find_skip {α : Type} {p : α → Bool} {xs : List α} {i : Nat} (h : ∀ j x, j < i → xs[j]? = some x → p x = false) {x : α} (e : xs[i]? = some x) (hx : p x = true) : xs.find? p = some x := by
  induction xs generalizing i with
  | nil => simp at e
  | cons y r ih =>
    cases i with
    | zero => simp at e; subst e; rw [List.find?_cons, hx]
    | succ i =>
      rw [List.find?_cons, h 0 y (by omega) rfl]
      exact ih (i := i) (fun j x hj e => h (j + 1) x (by omega) (by simpa using e)) (by simpa using e)
theorem find_none {α : Type} {p : α → Bool} {xs : List α} (h : ∀ (j : Nat) x, xs[j]? = some x → p x = false) : xs.find? p = none := by
  rw [List.find?_eq_none]
  intro x hx
  obtain ⟨j, hj, e⟩ := List.getElem_of_mem hx
  rw [h j x (by rw [List.getElem?_eq_getElem hj, e])]
  simp
theorem perm_sorted {xs ys : List Int} (h : ys.Perm xs) (s : ys.Pairwise (· ≤ ·)) (t : xs.Pairwise (· < ·)) : ys = xs :=
  h.eq_of_pairwise (le := (· ≤ ·)) (fun a b _ _ h1 h2 => Int.le_antisymm h1 h2) s (t.imp fun h => Int.le_of_lt h)
abbrev n_m_Watched_met : List Str := ["self", "machine", "me", "here", "number", "place", "hand", "wish"]
def t_m_Watched_met (K : PySem.W.Frag) (w : World)  : TS :=
 (tSeq (tAsg (xfWatched_machine K (tVar 0)) (gName 1))
 (tSeq (tAsg (xfMachine_whose K (tVar 1)) (gName 2))
 (tSeq (tAsg (tMeth (He.ga K "Machine") "next_place" (sp_Machine_next_place K w) [] E0 (tVar 1) (tCons (tVar 2) tNil)) (gName 3))
 (tSeq (tFor (iList K (tCB rSortedDI (tCons (xfWatched_stops K (tVar 0)) tNil))) (gName 4) (tSeq (tAsg (tDGet (xfWatched_stops K (tVar 0)) (tVar 4)) (gTup K 3 (gCons (gName 5) (gCons (gName 6) (gCons (gName 7) gNil)))))
 (tIfS (tAnd (tTest (tOp rEq (tVar 5) (tVar 3))) (tTest (tOp (rIn K false) (tVar 6) (tTup (tCons (tC .non) (tCons (tVar 2) tNil)))))) (tIfS (tOr (tTest (tOp rIsN (tVar 7) (tC .non))) (tTest (tOp rNe (tCall (sp_worth 8 K w) [] E0 (tCons (tVar 7) (tCons (xfFrame_names K (tOp (rIxL K) (tOp (rIxL K) (xfMachine_hands K (tVar 1)) (tVar 2)) (tUn (rU fun i => .int (-i)) (tC (.int 1))))) (tCons (xfMachine_held K (tVar 1)) tNil)))) (tC (.int 0))))) (tRet (tVar 4)) tNext) tNext)))
 (tRet (tC .non))))))
theorem pu_m_Watched_met {K : PySem.W.Frag} {w : World} (vs : List V) (H : Hp) (Q : VK) (E : XK) (h : sp_Watched_met K w vs H Q E) : t_m_Watched_met K w { nx := fun _ H' => Q .non H', rt := Q } (start n_m_Watched_met vs) H := by
  obtain ⟨G, W, R, rfl, hH, hA, ok, ho, q⟩ := h
  obtain ⟨f, r, d, t, e, ht⟩ := ok.M.next ok.nx ho
  have epl := place_eq e ht
  have enm := names_eq e
  have hsl := hA.s.len
  refine ⟨_, rfl, G.w, G.dx, _, _, _, _, _, _, _, _, _, rfl, hH.head, ?_⟩
  refine ⟨_, rfl, G.g.m, G.g.dx, _, _, _, _, _, _, _, rfl, hH.tail.tail.head, ?_⟩
  refine ⟨_, rfl, G.g.m, G.g.dx, _, rfl, hH.tail.tail.head, nmMachine_next_place, _, rfl, ?_⟩
  refine ⟨G.g, W.M, R, W.M.whose, f, r, d, t, rfl, hH.tail.tail, hA.M, e, ht, ?_⟩
  refine ⟨_, rfl, G.w, G.dx, _, _, _, _, _, _, _, _, _, rfl, hH.head, G.st, _, W.stops.map fun s => (s.1 : Int), rfl, .inl hH.tail.head, stK_keys hsl, by rw [List.length_map]; have := ok.few; omega, fun ys pl hperm hsort hpl => ?_⟩
  have hasc : (W.stops.map fun s => (s.1 : Int)).Pairwise (· < ·) := by
    have := ok.asc
    rw [List.pairwise_map] at this ⊢
    exact this.imp fun h => Int.ofNat_lt.mpr h
  have ey := perm_sorted hperm hsort hasc
  subst ey
  have h1 := hH.skip (o := .lst ((W.stops.map fun s => (s.1 : Int)).map V.int)) hpl
  have s1 := same_new hpl (.lst ((W.stops.map fun s => (s.1 : Int)).map V.int))
  refine ⟨pl, rfl, ⟨_, SqL.of upd_same⟩, ?_⟩
  have hP1 := (upd_same : upd H pl (.lst ((W.stops.map fun s => (s.1 : Int)).map V.int)) pl = _)
  generalize upd H pl (.lst ((W.stops.map fun s => (s.1 : Int)).map V.int)) = H1 at h1 s1 hP1
  refine for_it (walk_list (xs := (W.stops.map fun s => (s.1 : Int)).map V.int)) (fun i σ H2 => ∃ x4 x5 x6 x7, σ = [some (.ref G.w), some (.ref G.g.m), some (.int (W.M.whose : Nat)), some (.int (d.place : Nat)), x4, x5, x6, x7] ∧ Same H H2 ∧ Holds H2 (wC K G W ++ R) ∧ SqL K H2 pl ((W.stops.map fun s => (s.1 : Int)).map V.int) ∧
      ∀ j s, j < i → W.stops[j]? = some s → s.2.meets W.M = false)
    ⟨_, _, _, _, rfl, s1, h1, SqL.of hP1, fun j s hj => absurd hj (by omega)⟩ (fun i σ H2 _ ⟨_, _, _, _, _, _, _, h, _⟩ => h) (fun i u σ H2 H3 hlt hP hY => ?_) fun σ H2 hP => ?_
  · obtain ⟨x4, x5, x6, x7, rfl, s2, h2, hl2, hno⟩ := hP
    obtain ⟨rfl, hu⟩ := hY
    rw [List.length_map, List.length_map] at hlt
    obtain ⟨s, es⟩ : ∃ s, W.stops[i]? = some s := ⟨_, List.getElem?_eq_getElem hlt⟩
    have hu2 : u = .int (s.1 : Nat) := by
      rw [List.getElem?_map, List.getElem?_map, es] at hu
      exact (Option.some.inj hu).symm
    subst hu2
    have A2 := hA.mono (Imm.same s2)
    obtain ⟨a, vw, ea, hs1, hs2⟩ := A2.s.get es
    refine ⟨_, rfl, G.w, G.dx, _, _, _, _, _, _, _, _, _, rfl, h2.head, _, rfl, G.st, .ref a, rfl, ?_, ?_⟩
    · have := DGet.k (k := Sum.inl (s.1 : Int)) h2.tail.head
      rw [stK_val ok.asc es ea] at this
      exact this
    refine ⟨a, _, rfl, hs1, rfl, _, _, rfl, _, _, rfl, _, _, rfl, rfl, ?_⟩
    have miss : ∀ {H4}, Same H3 H4 → s.2.meets W.M = false → ∃ x4 x5 x6 x7, [some (V.ref G.w), some (.ref G.g.m), some (.int (W.M.whose : Nat)), some (.int (d.place : Nat)), some (.int (s.1 : Nat)), some (.int (s.2.place : Nat)), some (handV s.2.hand), some vw] = [some (.ref G.w), some (.ref G.g.m), some (.int (W.M.whose : Nat)), some (.int (d.place : Nat)), x4, x5, x6, x7] ∧ Same H H4 ∧ Holds H4 (wC K G W ++ R) ∧ SqL K H4 pl ((W.stops.map fun s => (s.1 : Int)).map V.int) ∧
        ∀ j s, j < i + 1 → W.stops[j]? = some s → s.2.meets W.M = false := by
      intro H4 s4 hm
      refine ⟨_, _, _, _, rfl, s2.trans s4, h2.same s4, Same.sq s4 hl2, fun j s' hj e' => ?_⟩
      rcases Nat.lt_succ_iff_lt_or_eq.mp hj with hj | hj
      · exact hno j s' hj e'
      · subst hj
        rw [es] at e'
        rw [← Option.some.inj e']; exact hm
    have hit : ∀ {H4}, Same H3 H4 → s.2.meets W.M = true → Q (.int (s.1 : Nat)) H4 := by
      intro H4 s4 hm
      have := q H4 (s2.trans s4)
      rw [show W.met = some s.1 from by unfold Wd.met; rw [find_skip (fun j x hj ej => hno j x hj ej) es hm]; rfl] at this
      exact this
    refine ⟨_, rfl, _, rfl, rfl, _, rfl, ?_⟩
    by_cases hp : s.2.place = d.place
    · refine ite2 (fun _ => ?_) (fun c => absurd (decide_eq_true (by rw [hp])) c)
      refine ⟨_, rfl, _, rfl, (by show 2 ≤ sizeLine; decide), fun tp htp => ?_⟩
      have s4 := same_new htp (.tup [.non, .int (W.M.whose : Nat)])
      refine ⟨tp, _, rfl, .inr (.inl (.inl upd_same)), flat_hand _, rfl, _, rfl, ?_⟩
      rw [show (if false = true then !inV (handV s.2.hand) [.non, .int (W.M.whose : Nat)] else inV (handV s.2.hand) [.non, .int (W.M.whose : Nat)]) = inV (handV s.2.hand) [.non, .int (W.M.whose : Nat)] from rfl, in_hand]
      cases hh : (s.2.hand.all fun k => decide (k = W.M.whose)) with
      | false =>
        refine iteF ?_
        exact miss s4 (by unfold Stop.meets; rw [hh]; simp)
      | true =>
        refine iteT ?_
        cases hw : s.2.wish with
        | none =>
          rw [hw] at hs2
          have hs2 : vw = .non := hs2
          subst hs2
          refine ⟨_, rfl, rfl, _, rfl, iteT (iteT ⟨_, rfl, ?_⟩)⟩
          refine hit s4 ?_
          unfold Stop.meets
          rw [hh, hw, epl, hp]; simp
        | some y =>
          rw [hw] at hs2
          obtain ⟨hy, hyn⟩ := hs2
          have wok := ok.wish s (List.mem_of_getElem? es) y hw
          rw [hp] at wok
          obtain ⟨y1, y2, y3⟩ := ok.wf_here e ht wok
          refine ⟨_, rfl, rfl, _, rfl, ?_⟩
          rw [decide_eq_false hyn]
          refine iteF ?_
          have h4 := h2.same s4
          have A4 := A2.mono (Imm.same s4)
          obtain ⟨hl, gs, Rest, a1, a2, a3, _⟩ := hands_split A4.M.s e
          have h5 := h4.tail.tail.tail.tail.tail.perm (List.Perm.append_right R a3)
          have eat : G.g.hsv[W.M.whose]? = some (.ref hl) := by rw [MG.hsv, List.getElem?_map, a1]; rfl
          cases gs with
          | nil => exact a2.elim
          | cons fg gs =>
            have h5 : Holds (upd H3 tp (.tup [.non, .int (W.M.whose : Nat)])) ((hl, .lst (hlV gs ++ [.ref fg.x])) :: (frC K fg f ++ frsC K gs r ++ Rest ++ R)) := by rw [← hlV_cons]; exact h5
            refine ⟨_, rfl, _, rfl, G.g.m, G.g.dx, _, _, _, _, _, _, _, rfl, h4.tail.tail.head, _, rfl, G.g.hs, _, _, _, rfl, rfl, A4.M.sf.l, atI_nat eat, 1, rfl, hl, _, -1, _, rfl, rfl, SqL.of h5.head, atI_last _ _, fg.x, fg.dx, _, _, _, _, rfl, h5.tail.head, ?_⟩
            refine ⟨_, rfl, G.g.m, G.g.dx, _, _, _, _, _, _, _, rfl, h4.tail.tail.head, ?_⟩
            refine ⟨y, _, fg.na, G.g.he, f.names, W.M.held, rfl, y2, hy.mono (Imm.same s4), y1, SqL.of h5.tail.tail.head, SqL.of h4.tail.tail.tail.head, y3, ok.M.c, fun H5 s5 => ?_⟩
            refine ⟨rfl, _, rfl, ?_⟩
            have hmt : s.2.meets W.M = decide (y.ev f.names W.M.held ≠ 0) := by
              unfold Stop.meets
              rw [hh, hw, epl, hp, enm]; simp
            by_cases h0 : y.ev f.names W.M.held = 0
            · refine ite2 (fun c => ?_) fun _ => ?_
              · rw [h0] at c; cases c
              · exact miss (s4.trans s5) (by rw [hmt, h0]; rfl)
            · refine ite2 (fun _ => ?_) fun c => absurd ?_ c
              · exact ⟨_, rfl, hit (s4.trans s5) (by rw [hmt]; exact decide_eq_true h0)⟩
              · rw [decide_eq_false (fun e2 => h0 (V.int.inj e2))]; rfl
    · refine ite2 (fun c => absurd ?_ hp) fun _ => ?_
      · have := V.int.inj (of_decide_eq_true c); omega
      · show if false = true then _ else _
        refine iteF ?_
        exact miss (H4 := H3) (fun b o h => h) (by unfold Stop.meets; rw [epl, decide_eq_false hp]; rfl)
  · obtain ⟨x4, x5, x6, x7, rfl, s2, h2, hl2, hno⟩ := hP
    rw [List.length_map, List.length_map] at hno
    have := q H2 s2
    rw [show W.met = none from by
      unfold Wd.met
      rw [find_none fun j x ej => hno j x (List.getElem?_eq_some_iff.mp ej).1 ej]; rfl] at this
    exact this
end SD
set_option Elab.async false
set_option linter.all false
set_option maxRecDepth 100000
set_option maxHeartbeats 4000000
namespace SD
open PySem PySem.Spec PyProof.Rows L2
/-! ### is_reached -/
theorem hand_list {K : PySem.W.Frag} {H : Hp} {g : MG} {M : Mach} {R : List (Addr × HO)} (hA : MAt K H g M) (hH : Holds H (mC K g M ++ R)) {k : Nat} (hk : k < M.hands.length) :
    ∃ hl xs, g.hsv[k]? = some (.ref hl) ∧ H hl = some (.lst xs) ∧ xs.length = (M.hands.getD k []).length := by
  have e : M.hands[k]? = some (M.hands[k]) := List.getElem?_eq_getElem hk
  obtain ⟨hl, gs, e2, F1, hhl, em⟩ := hands_get hA.s e hH.tail.tail.tail
  exact ⟨hl, _, e2, hhl, by rw [hlV_len, F1.len, List.getD_eq_getElem?_getD, e]; rfl⟩
theorem way_in (y : Way) : decide (V.str y.str = V.str "in") = decide (y = .inn) := by cases y <;> decide +kernel
theorem way_over (y : Way) : decide (V.str y.str = V.str "over") = decide (y = .over) := by cases y <;> decide +kernel
def sp_Watched_is_reached (K : PySem.W.Frag) (w : World) : Sp := fun vs H Q _ => ∃ (G : WG) (W : Wd) (R : List (Addr × HO)) (g : Nat × Way × Nat), vs = [.ref G.w] ∧ Holds H (wC K G W ++ R) ∧ WAt K H G W ∧ W.goal = some g ∧ g.1 < W.M.hands.length ∧ Q (.bl W.reached) H
abbrev n_m_Watched_is_reached : List Str := ["self", "hand", "way", "deep", "now"]
def t_m_Watched_is_reached (K : PySem.W.Frag) (w : World)  : TS :=
 (tSeq (tAsg (xfWatched_goal K (tVar 0)) (gTup K 3 (gCons (gName 1) (gCons (gName 2) (gCons (gName 3) gNil)))))
 (tSeq (tIfS (tOr (tTest (tOp rNe (xfMachine_whose K (xfWatched_machine K (tVar 0))) (tVar 1))) (tNot (tB (xfWatched_moved K (tVar 0))))) (tRet (tC (.bl false))) tNext)
 (tSeq (tAsg (tCB (rLenS' K) (tCons (tOp (rIxL K) (xfMachine_hands K (xfWatched_machine K (tVar 0))) (tVar 1)) tNil)) (gName 4))
 (tRet (tOrV (tOp rEq (tVar 2) (tC (.str "in"))) (tOrV (tAndV (tOp rEq (tVar 2) (tC (.str "over"))) (tOp (rI0 fun i j => .bl (decide (i ≤ j))) (tVar 4) (tVar 3))) (tOp (rI0 fun i j => .bl (decide (i < j))) (tVar 4) (tVar 3))))))))
theorem pu_m_Watched_is_reached {K : PySem.W.Frag} {w : World} (vs : List V) (H : Hp) (Q : VK) (E : XK) (h : sp_Watched_is_reached K w vs H Q E) : t_m_Watched_is_reached K w { nx := fun _ H' => Q .non H', rt := Q } (start n_m_Watched_is_reached vs) H := by
  obtain ⟨G, W, R, ⟨k, way, deep⟩, rfl, hH, hA, eg, hk, q⟩ := h
  have hg := hA.g
  rw [eg] at hg
  obtain ⟨a, ego, hg⟩ := hg
  have er : W.reached = (decide (W.M.whose = k) && (W.moved && wayOk way (W.M.hands.getD k []).length deep)) := by unfold Wd.reached; rw [eg]
  rw [er] at q
  obtain ⟨hl, xs, e1, e2, e3⟩ := hand_list hA.M hH.tail.tail hk
  have e3 : xs.length = (W.M.hands.getD k []).length := e3
  refine ⟨_, rfl, G.w, G.dx, _, _, _, _, _, _, _, _, _, rfl, hH.head, a, _, ego, hg, rfl, _, _, rfl, _, _, rfl, _, _, rfl, rfl, ?_⟩
  refine ⟨_, rfl, G.w, G.dx, _, _, _, _, _, _, _, _, _, rfl, hH.head, G.g.m, G.g.dx, _, _, _, _, _, _, _, rfl, hH.tail.tail.head, _, rfl, rfl, _, rfl, ?_⟩
  by_cases hw : W.M.whose = k
  · refine ite2 (fun c => ?_) fun _ => ?_
    · rw [decide_eq_true (by rw [hw] : V.int (W.M.whose : Nat) = V.int (k : Nat))] at c; cases c
    refine ⟨_, rfl, G.w, G.dx, _, _, _, _, _, _, _, _, _, rfl, hH.head, _, rfl, ?_⟩
    rw [decide_eq_true hw, Bool.true_and] at q
    cases hm : W.moved with
    | false =>
      rw [hm] at q
      exact iteT q
    | true =>
      rw [hm, Bool.true_and] at q
      refine iteF ?_
      refine ⟨_, rfl, G.w, G.dx, _, _, _, _, _, _, _, _, _, rfl, hH.head, G.g.m, G.g.dx, _, _, _, _, _, _, _, rfl, hH.tail.tail.head, _, rfl, G.g.hs, _, _, _, rfl, rfl, hA.M.sf.l, atI_nat e1, _, xs, rfl, .inl (SqL.of e2), ?_⟩
      refine ⟨_, rfl, rfl, _, rfl, ?_⟩
      rw [way_in]
      cases way with
      | inn => exact q
      | over =>
        refine iteF ⟨_, rfl, rfl, _, rfl, ?_⟩
        rw [way_over]
        refine iteT ⟨_, rfl, _, rfl, _, _, rfl, rfl, _, rfl, ?_⟩
        have q : Q (.bl (decide ((W.M.hands.getD k []).length ≤ deep))) H := q
        by_cases hle : (W.M.hands.getD k []).length ≤ deep
        · rw [decide_eq_true hle] at q
          exact iteDT (show ((xs.length : Nat) : Int) ≤ ((deep : Nat) : Int) by omega) q
        · rw [decide_eq_false hle] at q
          refine iteDF (show ¬ ((xs.length : Nat) : Int) ≤ ((deep : Nat) : Int) by omega) ⟨_, rfl, _, rfl, _, _, rfl, rfl, ?_⟩
          show Q (.bl (decide ((xs.length : Int) < ((deep : Nat) : Int)))) H
          rw [decide_eq_false (by omega)]; exact q
      | out =>
        refine iteF ⟨_, rfl, rfl, _, rfl, ?_⟩
        rw [way_over]
        refine iteF ⟨false, rfl, iteF ⟨_, rfl, _, rfl, _, _, rfl, rfl, ?_⟩⟩
        have q : Q (.bl (decide ((W.M.hands.getD k []).length < deep))) H := q
        rw [← decide_eq_decide.mpr (by omega : ((xs.length : Nat) : Int) < (deep : Nat) ↔ (W.M.hands.getD k []).length < deep)] at q
        exact q
  · rw [decide_eq_false hw] at q
    refine ite2 (fun _ => ?_) fun c => absurd ?_ c
    · exact iteT q
    · rw [decide_eq_false (fun e => hw (by have := V.int.inj e; omega))]; rfl
/-! ### event -/
def EvAt (K : PySem.W.Frag) (H : Hp) : Ev → V → Prop
  | .over, v => ∃ a, v = .ref a ∧ SqT K H a [.str "over"]
  | .ended h, v => ∃ a, v = .ref a ∧ SqT K H a [.str "ended", .int (h : Nat)]
  | .stop h p n, v => ∃ a, v = .ref a ∧ SqT K H a [.str "stop", .int (h : Nat), .int (p : Nat), .int (n : Nat)]
  | .step h p, v => ∃ a, v = .ref a ∧ SqT K H a [.str "step", .int (h : Nat), .int (p : Nat)]
  | .paused h p, v => ∃ a, v = .ref a ∧ SqT K H a [.str "paused", .int (h : Nat), .int (p : Nat)]
def EvO (K : PySem.W.Frag) (H : Hp) : Option Ev → V → Prop
  | none, v => v = .non
  | some e, v => EvAt K H e v
theorem EvAt.mono {K : PySem.W.Frag} {H H' : Hp} (i : Imm H H') {e : Ev} {v : V} (h : EvAt K H e v) : EvAt K H' e v := by
  cases e <;> (obtain ⟨a, e, h⟩ := h; exact ⟨a, e, i.t h⟩)
def sp_Watched_event (K : PySem.W.Frag) (w : World) : Sp := fun vs H Q _ => ∃ (G : WG) (W : Wd) (R : List (Addr × HO)), vs = [.ref G.w] ∧ Holds H (wC K G W ++ R) ∧ WAt K H G W ∧ WOk W ∧ ∀ H' v, Same H H' → EvO K H' W.event v → Q v H'
abbrev n_m_Watched_event : List Str := ["self", "machine", "number"]
def t_m_Watched_event (K : PySem.W.Frag) (w : World)  : TS :=
 (tSeq (tAsg (xfWatched_machine K (tVar 0)) (gName 1))
 (tSeq (tIfS (tB (tMeth (He.ga K "Machine") "is_over" (sp_Machine_is_over K w) [] E0 (tVar 1) tNil)) (tRet (tTup (tCons (tC (.str "over")) tNil))) tNext)
 (tSeq (tIfS (tAnd (tTest (tOp rNotN (xfWatched_goal K (tVar 0)) (tC .non))) (tTest (tOp (rEqNil K false) (tOp (rIxL K) (xfMachine_hands K (tVar 1)) (tOp (rIxT K) (xfWatched_goal K (tVar 0)) (tC (.int 0)))) (tLst tNil)))) (tRet (tTup (tCons (tC (.str "ended")) (tCons (tOp (rIxT K) (xfWatched_goal K (tVar 0)) (tC (.int 0))) tNil)))) tNext)
 (tSeq (tIfS (tNot (tB (xfWatched_first K (tVar 0)))) (tSeq (tAsg (tMeth (He.ga K "Watched") "met" (sp_Watched_met K w) [] E0 (tVar 0) tNil) (gName 2))
 (tSeq (tIfS (tTest (tOp rNotN (tVar 2) (tC .non))) (tRet (tTup (tCons (tC (.str "stop")) (tCons (xfMachine_whose K (tVar 1)) (tCons (tMeth (He.ga K "Machine") "next_place" (sp_Machine_next_place K w) [] E0 (tVar 1) (tCons (xfMachine_whose K (tVar 1)) tNil)) (tCons (tVar 2) tNil)))))) tNext)
 (tIfS (tAnd (tTest (tOp rNotN (xfWatched_goal K (tVar 0)) (tC .non))) (tB (tMeth (He.ga K "Watched") "is_reached" (sp_Watched_is_reached K w) [] E0 (tVar 0) tNil))) (tRet (tTup (tCons (tC (.str "step")) (tCons (xfMachine_whose K (tVar 1)) (tCons (tMeth (He.ga K "Machine") "next_place" (sp_Machine_next_place K w) [] E0 (tVar 1) (tCons (xfMachine_whose K (tVar 1)) tNil)) tNil))))) tNext))) tNext)
 (tSeq (tIfS (tTest (tOp rEq (xfWatched_left K (tVar 0)) (tC (.int 0)))) (tRet (tTup (tCons (tC (.str "paused")) (tCons (xfMachine_whose K (tVar 1)) (tCons (tMeth (He.ga K "Machine") "next_place" (sp_Machine_next_place K w) [] E0 (tVar 1) (tCons (xfMachine_whose K (tVar 1)) tNil)) tNil))))) tNext)
 (tRet (tC .non)))))))
theorem pu_m_Watched_event {K : PySem.W.Frag} {w : World} (vs : List V) (H : Hp) (Q : VK) (E : XK) (h : sp_Watched_event K w vs H Q E) : t_m_Watched_event K w { nx := fun _ H' => Q .non H', rt := Q } (start n_m_Watched_event vs) H := by
  obtain ⟨G, W, R, rfl, hH, hA, ok, q⟩ := h
  refine ⟨_, rfl, G.w, G.dx, _, _, _, _, _, _, _, _, _, rfl, hH.head, ?_⟩
  refine ⟨_, rfl, G.g.m, G.g.dx, _, rfl, hH.tail.tail.head, nmMachine_is_over, ?_⟩
  refine ⟨G.g, W.M, R, rfl, hH.tail.tail, hA.M, ok.M.h3, fun H1 s1 => ⟨_, rfl, ?_⟩⟩
  have h1 := hH.same s1
  have A1 := hA.mono (Imm.same s1)
  cases ho : W.M.isOver with
  | true =>
    refine iteT ⟨(by show 1 ≤ sizeLine; decide), fun t ht => ?_⟩
    refine q _ _ (s1.trans (same_new ht _)) ?_
    unfold Wd.event
    rw [ho]
    exact ⟨t, rfl, .inl (.inl upd_same)⟩
  | false =>
  refine iteF ?_
  obtain ⟨f, r, d, t, e, ht⟩ := ok.M.next ok.nx ho
  have epl := place_eq e ht
  have tell : ∀ (wd : Str) (σ : L2.St) (H2 : Hp), σ[1]? = some (some (.ref G.g.m)) → Same H H2 → (∀ H3 a, Same H H3 → SqT K H3 a [.str wd, .int (W.M.whose : Nat), .int (W.M.place W.M.whose : Nat)] → Q (.ref a) H3) →
      (tRet (tTup (tCons (tC (.str wd)) (tCons (xfMachine_whose K (tVar 1)) (tCons (tMeth (He.ga K "Machine") "next_place" (sp_Machine_next_place K w) [] E0 (tVar 1) (tCons (xfMachine_whose K (tVar 1)) tNil)) tNil)))))
        { nx := fun _ H' => Q .non H', rt := Q } σ H2 := by
    intro wd σ H2 h1 s2 k
    have h2 := hH.same s2
    have A2 := hA.mono (Imm.same s2)
    refine ⟨_, h1, G.g.m, G.g.dx, _, _, _, _, _, _, _, rfl, h2.tail.tail.head, _, h1, G.g.m, G.g.dx, _, rfl, h2.tail.tail.head, nmMachine_next_place, _, h1, G.g.m, G.g.dx, _, _, _, _, _, _, _, rfl, h2.tail.tail.head, ?_⟩
    refine ⟨G.g, W.M, R, W.M.whose, f, r, d, t, rfl, h2.tail.tail, A2.M, e, ht, ?_⟩
    refine ⟨(by show 3 ≤ sizeLine; decide), fun tp htp => ?_⟩
    refine k _ tp (s2.trans (same_new htp _)) ?_
    rw [epl]
    exact .inl (.inl upd_same)
  have paused : ∀ (σ : L2.St) (H2 : Hp), σ[0]? = some (some (.ref G.w)) → σ[1]? = some (some (.ref G.g.m)) → Same H H2 → (∀ H3 v, Same H H3 → EvO K H3 W.paused v → Q v H3) →
      (tSeq (tIfS (tTest (tOp rEq (xfWatched_left K (tVar 0)) (tC (.int 0)))) (tRet (tTup (tCons (tC (.str "paused")) (tCons (xfMachine_whose K (tVar 1)) (tCons (tMeth (He.ga K "Machine") "next_place" (sp_Machine_next_place K w) [] E0 (tVar 1) (tCons (xfMachine_whose K (tVar 1)) tNil)) tNil))))) tNext)
        (tRet (tC .non))) { nx := fun _ H' => Q .non H', rt := Q } σ H2 := by
    intro σ H2 h0 h1 s2 k
    have h2 := hH.same s2
    refine ⟨_, h0, G.w, G.dx, _, _, _, _, _, _, _, _, _, rfl, h2.head, rfl, _, rfl, ?_⟩
    by_cases hl : W.left = 0
    · refine ite2 (fun _ => ?_) fun c => absurd (decide_eq_true (by rw [hl]; rfl)) c
      refine tell "paused" σ H2 h1 s2 fun H3 a s3 h3 => ?_
      refine k H3 _ s3 ?_
      unfold Wd.paused
      rw [if_pos hl]
      exact ⟨a, rfl, h3⟩
    · refine ite2 (fun c => absurd ?_ hl) fun _ => ?_
      · have := V.int.inj (of_decide_eq_true c); omega
      · refine k H2 _ s2 ?_
        unfold Wd.paused
        rw [if_neg hl]
        rfl
  have rest : ∀ (H2 : Hp), Same H H2 → (∀ H3 v, Same H H3 → EvO K H3 W.rest v → Q v H3) →
      (tSeq (tIfS (tNot (tB (xfWatched_first K (tVar 0)))) (tSeq (tAsg (tMeth (He.ga K "Watched") "met" (sp_Watched_met K w) [] E0 (tVar 0) tNil) (gName 2))
 (tSeq (tIfS (tTest (tOp rNotN (tVar 2) (tC .non))) (tRet (tTup (tCons (tC (.str "stop")) (tCons (xfMachine_whose K (tVar 1)) (tCons (tMeth (He.ga K "Machine") "next_place" (sp_Machine_next_place K w) [] E0 (tVar 1) (tCons (xfMachine_whose K (tVar 1)) tNil)) (tCons (tVar 2) tNil)))))) tNext)
 (tIfS (tAnd (tTest (tOp rNotN (xfWatched_goal K (tVar 0)) (tC .non))) (tB (tMeth (He.ga K "Watched") "is_reached" (sp_Watched_is_reached K w) [] E0 (tVar 0) tNil))) (tRet (tTup (tCons (tC (.str "step")) (tCons (xfMachine_whose K (tVar 1)) (tCons (tMeth (He.ga K "Machine") "next_place" (sp_Machine_next_place K w) [] E0 (tVar 1) (tCons (xfMachine_whose K (tVar 1)) tNil)) tNil))))) tNext))) tNext)
 (tSeq (tIfS (tTest (tOp rEq (xfWatched_left K (tVar 0)) (tC (.int 0)))) (tRet (tTup (tCons (tC (.str "paused")) (tCons (xfMachine_whose K (tVar 1)) (tCons (tMeth (He.ga K "Machine") "next_place" (sp_Machine_next_place K w) [] E0 (tVar 1) (tCons (xfMachine_whose K (tVar 1)) tNil)) tNil))))) tNext)
 (tRet (tC .non)))) { nx := fun _ H' => Q .non H', rt := Q } [some (.ref G.w), some (.ref G.g.m), none] H2 := by
    intro H2 s2 k
    have h2 := hH.same s2
    have A2 := hA.mono (Imm.same s2)
    refine ⟨_, rfl, G.w, G.dx, _, _, _, _, _, _, _, _, _, rfl, h2.head, _, rfl, ?_⟩
    cases hf : W.first with
    | true =>
      refine iteF ?_
      refine paused _ H2 rfl rfl s2 fun H3 v s3 h3 => k H3 v s3 ?_
      unfold Wd.rest
      rw [if_pos hf]; exact h3
    | false =>
      refine iteT ?_
      refine ⟨_, rfl, G.w, G.dx, _, rfl, h2.head, nmWatched_met, ?_⟩
      refine ⟨G, W, R, rfl, h2, A2, ok, ho, fun H3 s3 => ?_⟩
      have s03 := s2.trans s3
      have h3 := hH.same s03
      have A3 := hA.mono (Imm.same s03)
      cases hm : W.met with
      | some n =>
        refine ⟨_, rfl, rfl, _, rfl, iteT ?_⟩
        refine ⟨_, rfl, G.g.m, G.g.dx, _, _, _, _, _, _, _, rfl, h3.tail.tail.head, _, rfl, G.g.m, G.g.dx, _, rfl, h3.tail.tail.head, nmMachine_next_place, _, rfl, G.g.m, G.g.dx, _, _, _, _, _, _, _, rfl, h3.tail.tail.head, ?_⟩
        refine ⟨G.g, W.M, R, W.M.whose, f, r, d, t, rfl, h3.tail.tail, A3.M, e, ht, ?_⟩
        refine ⟨_, rfl, (by show 4 ≤ sizeLine; decide), fun tp htp => ?_⟩
        refine k _ _ (s03.trans (same_new htp _)) ?_
        unfold Wd.rest
        rw [if_neg (by rw [hf]; simp), hm, epl]
        exact ⟨tp, rfl, .inl (.inl upd_same)⟩
      | none =>
        refine ⟨_, rfl, rfl, _, rfl, iteF ?_⟩
        have goon : W.reached = false → (tSeq (tIfS (tTest (tOp rEq (xfWatched_left K (tVar 0)) (tC (.int 0)))) (tRet (tTup (tCons (tC (.str "paused")) (tCons (xfMachine_whose K (tVar 1)) (tCons (tMeth (He.ga K "Machine") "next_place" (sp_Machine_next_place K w) [] E0 (tVar 1) (tCons (xfMachine_whose K (tVar 1)) tNil)) tNil))))) tNext)
            (tRet (tC .non))) { nx := fun _ H' => Q .non H', rt := Q } [some (.ref G.w), some (.ref G.g.m), some .non] H3 := by
          intro hr
          refine paused _ H3 rfl rfl s03 fun H4 v s4 h4 => k H4 v s4 ?_
          unfold Wd.rest
          rw [if_neg (by rw [hf]; simp), hm, hr]; exact h4
        refine ⟨_, rfl, G.w, G.dx, _, _, _, _, _, _, _, _, _, rfl, h3.head, rfl, _, rfl, ?_⟩
        cases hg : W.goal with
        | none =>
          have e0 := A3.g
          rw [hg] at e0
          have e0 : G.go = .non := e0
          rw [e0]
          refine iteF ?_
          show if false = true then _ else _
          exact iteF (goon (by unfold Wd.reached; rw [hg]))
        | some g =>
          have e0 := A3.g
          rw [hg] at e0
          obtain ⟨ag, eg, hgt⟩ := e0
          rw [eg]
          refine iteT ?_
          refine ⟨_, rfl, G.w, G.dx, _, rfl, h3.head, nmWatched_is_reached, ?_⟩
          refine ⟨G, W, R, g, rfl, h3, A3, hg, ok.goal g hg, _, rfl, ?_⟩
          cases hr : W.reached with
          | false => exact iteF (goon hr)
          | true =>
            refine iteT ?_
            refine tell "step" _ H3 rfl s03 fun H4 a s4 h4 => k H4 _ s4 ?_
            unfold Wd.rest
            rw [if_neg (by rw [hf]; simp), hm, hr]
            exact ⟨a, rfl, h4⟩
  refine ⟨_, rfl, G.w, G.dx, _, _, _, _, _, _, _, _, _, rfl, h1.head, rfl, _, rfl, ?_⟩
  cases hg : W.goal with
  | none =>
    have e0 := A1.g
    rw [hg] at e0
    have e0 : G.go = .non := e0
    rw [e0]
    refine iteF ?_
    show if false = true then _ else _
    refine iteF (rest H1 s1 fun H3 v s3 h3 => q H3 v s3 ?_)
    unfold Wd.event
    rw [ho, hg]; exact h3
  | some g =>
    have e0 := A1.g
    rw [hg] at e0
    obtain ⟨ag, eg, hgt⟩ := e0
    rw [eg]
    refine iteT ?_
    have ego : wO K G W = .ins (He.ga K "Watched") G.dx (flWatched G.vp (.ref G.fu) (.ref G.g.m) (.ref G.st) (.int (W.made : Nat)) (.ref ag) (.int (W.left : Nat)) (.bl W.first) (.bl W.moved)) := by rw [← eg]
    have h1w : H1 G.w = some (.ins (He.ga K "Watched") G.dx (flWatched G.vp (.ref G.fu) (.ref G.g.m) (.ref G.st) (.int (W.made : Nat)) (.ref ag) (.int (W.left : Nat)) (.bl W.first) (.bl W.moved))) := by rw [← ego]; exact h1.head
    have hk := ok.goal g hg
    obtain ⟨hl, gs, e2, F1, hhl, em⟩ := hands_get A1.M.s (List.getElem?_eq_getElem hk) h1.tail.tail.tail.tail.tail
    have egd : W.M.hands.getD g.1 [] = W.M.hands[g.1] := by rw [List.getD_eq_getElem?_getD, List.getElem?_eq_getElem hk]; rfl
    rw [← egd] at em
    refine ⟨_, rfl, G.g.m, G.g.dx, _, _, _, _, _, _, _, rfl, h1.tail.tail.head, _, rfl, G.w, G.dx, _, _, _, _, _, _, _, _, _, rfl, h1w, ag, _, 0, _, rfl, rfl, hgt, rfl, G.g.hs, _, _, _, rfl, rfl, A1.M.sf.l, atI_nat e2, Nat.zero_le _, fun p hp => ?_⟩
    refine ⟨hl, p, _, rfl, rfl, SqL.of (by rw [upd_ne (fun e => by rw [← e, hhl] at hp; cases hp)]; exact hhl), SqL.of upd_same, _, rfl, ?_⟩
    have s2 := s1.trans (same_new hp (.lst []))
    rw [show (if false = true then !(hlV gs).isEmpty else (hlV gs).isEmpty) = (hlV gs).isEmpty from rfl, em]
    cases hem : (W.M.hands.getD g.1 []).isEmpty with
    | false =>
      refine iteF (rest _ s2 fun H3 v s3 h3 => q H3 v s3 ?_)
      unfold Wd.event
      rw [ho, hg]
      show EvO K H3 (if (W.M.hands.getD g.1 []).isEmpty = true then _ else _) v
      rw [hem]; exact h3
    | true =>
      have h2w := (same_new hp (.lst [])) _ _ h1w
      refine iteT ?_
      refine ⟨_, rfl, G.w, G.dx, _, _, _, _, _, _, _, _, _, rfl, h2w, ag, _, 0, _, rfl, rfl, (Imm.new hp).t hgt, rfl, (by show 2 ≤ sizeLine; decide), fun tp htp => ?_⟩
      refine q _ _ (s2.trans (same_new htp _)) ?_
      unfold Wd.event
      rw [ho, hg]
      show EvO K _ (if (W.M.hands.getD g.1 []).isEmpty = true then _ else _) _
      rw [hem]
      exact ⟨tp, rfl, .inl (.inl upd_same)⟩
end SD
set_option Elab.async false
set_option linter.all false
set_option maxRecDepth 100000
set_option maxHeartbeats 4000000
namespace SD
open PySem PySem.Spec PyProof.Rows L2
/-! ### on, finish, go -/
theorem Wd.left_pos {w : Wd} (h : w.event = none) : 0 < w.left := by
  have hp : w.paused = none := by
    unfold Wd.event at h
    split at h
    · cases h
    have hr : w.rest = none := by
      split at h
      · split at h
        · cases h
        · exact h
      · exact h
    unfold Wd.rest at hr
    split at hr
    · exact hr
    · split at hr
      · cases hr
      · split at hr
        · cases hr
        · exact hr
  unfold Wd.paused at hp
  split at hp
  · cases hp
  · omega
def sp_Watched_on (K : PySem.W.Frag) (w : World) : Sp := fun vs H Q _ => ∃ (G : WG) (W : Wd) (R : List (Addr × HO)), vs = [.ref G.w] ∧ Holds H (wC K G W ++ R) ∧ WAt K H G W ∧ WOk W ∧ W.M.done + W.left < sizeLine ∧
  (∀ e H' v, W.event = some e → Same H H' → EvAt K H' e v → Q v H') ∧ (∀ H' G', W.event = none → G'.w = G.w → Imm H H' → Holds H' (wC K G' W.on ++ R) → WAt K H' G' W.on → Q .non H')
abbrev n_m_Watched_on : List Str := ["self", "told"]
def t_m_Watched_on (K : PySem.W.Frag) (w : World)  : TS :=
 (tSeq (tAsg (tMeth (He.ga K "Watched") "event" (sp_Watched_event K w) [] E0 (tVar 0) tNil) (gName 1))
 (tSeq (tIfS (tTest (tOp rIsN (tVar 1) (tC .non))) (tSeq (xsWatched_first K (tVar 0) (tC (.bl false)))
 (tSeq (xsWatched_moved K (tVar 0) (tOrV (xfWatched_moved K (tVar 0)) (tAndV (tOp rNotN (xfWatched_goal K (tVar 0)) (tC .non)) (tOp rEq (xfMachine_whose K (xfWatched_machine K (tVar 0))) (tOp (rIxT K) (xfWatched_goal K (tVar 0)) (tC (.int 0)))))))
 (tSeq (xsWatched_left K (tVar 0) (tOp (rI0 fun i j => .int (i - j)) (xfWatched_left K (tVar 0)) (tC (.int 1))))
 (tDrop (tMeth (He.ga K "Machine") "deed" (sp_Machine_deed K w) [] E0 (xfWatched_machine K (tVar 0)) tNil))))) tNext)
 (tRet (tVar 1))))
theorem pu_m_Watched_on {K : PySem.W.Frag} {w : World} (vs : List V) (H : Hp) (Q : VK) (E : XK) (h : sp_Watched_on K w vs H Q E) : t_m_Watched_on K w { nx := fun _ H' => Q .non H', rt := Q } (start n_m_Watched_on vs) H := by
  obtain ⟨G, W, R, rfl, hH, hA, ok, hdn, q1, q2⟩ := h
  refine ⟨_, rfl, G.w, G.dx, _, rfl, hH.head, nmWatched_event, ?_⟩
  refine ⟨G, W, R, rfl, hH, hA, ok, fun H1 v s1 hv => ?_⟩
  have h1 := hH.same s1
  have A1 := hA.mono (Imm.same s1)
  cases he : W.event with
  | some e =>
    rw [he] at hv
    have hne : v ≠ .non := by cases e <;> (obtain ⟨a, ea, _⟩ := hv; rw [ea]; intro c; cases c)
    refine ⟨_, rfl, rfl, _, rfl, ?_⟩
    rw [decide_eq_false hne]
    refine iteF ⟨_, rfl, ?_⟩
    exact q1 e H1 v he s1 hv
  | none =>
    rw [he] at hv
    have hv : v = .non := hv
    subst hv
    have hl := Wd.left_pos he
    have ho := Wd.event_over he
    refine ⟨_, rfl, rfl, _, rfl, iteT ?_⟩
    refine ⟨_, rfl, G.w, G.dx, _, _, _, _, _, _, _, _, _, rfl, h1.head, ?_⟩
    have h2 := h1.upd (o' := wOx K G W.made W.left false W.moved)
    have i2 := (Imm.same s1).trans (h1.imm (o' := wOx K G W.made W.left false W.moved) rfl)
    have A2 := hA.mono i2
    generalize hg2 : upd H1 G.w (wOx K G W.made W.left false W.moved) = H2 at h2 i2 A2
    have mv : ∀ Q' : VK, Q' (.bl W.on.moved) H2 → (tOrV (xfWatched_moved K (tVar 0)) (tAndV (tOp rNotN (xfWatched_goal K (tVar 0)) (tC .non)) (tOp rEq (xfMachine_whose K (xfWatched_machine K (tVar 0))) (tOp (rIxT K) (xfWatched_goal K (tVar 0)) (tC (.int 0)))))) [some (.ref G.w), some .non] H2 Q' := by
      intro Q' k
      have em : W.on.moved = (W.moved || (W.goal.any fun g => decide (W.M.whose = g.1))) := rfl
      rw [em] at k
      refine ⟨_, rfl, G.w, G.dx, _, _, _, _, _, _, _, _, _, rfl, h2.head, W.moved, rfl, ?_⟩
      cases hm : W.moved with
      | true => rw [hm] at k; exact k
      | false =>
        rw [hm, Bool.false_or] at k
        refine iteF ⟨_, rfl, G.w, G.dx, _, _, _, _, _, _, _, _, _, rfl, h2.head, rfl, _, rfl, ?_⟩
        cases hg : W.goal with
        | none =>
          have e0 := A2.g
          rw [hg] at e0
          have e0 : G.go = .non := e0
          rw [e0]
          rw [hg] at k
          exact k
        | some g =>
          have e0 := A2.g
          rw [hg] at e0
          obtain ⟨ag, eg, hgt⟩ := e0
          have h2w : H2 G.w = some (.ins (He.ga K "Watched") G.dx (flWatched G.vp (.ref G.fu) (.ref G.g.m) (.ref G.st) (.int (W.made : Nat)) (.ref ag) (.int (W.left : Nat)) (.bl false) (.bl W.moved))) := by rw [← eg]; exact h2.head
          rw [eg]
          refine iteT ⟨_, rfl, G.w, G.dx, _, _, _, _, _, _, _, _, _, rfl, h2w, G.g.m, G.g.dx, _, _, _, _, _, _, _, rfl, h2.tail.tail.head, _, rfl, G.w, G.dx, _, _, _, _, _, _, _, _, _, rfl, h2w, ag, _, 0, _, rfl, rfl, hgt, rfl, rfl, ?_⟩
          rw [hg] at k
          have k : Q' (.bl (decide (W.M.whose = g.1))) H2 := k
          rw [← decide_eq_decide.mpr (⟨fun c => by have := V.int.inj c; omega, fun c => by rw [c]⟩ : V.int (W.M.whose : Nat) = V.int (g.1 : Nat) ↔ W.M.whose = g.1)] at k
          exact k
    refine mv _ ?_
    refine ⟨_, rfl, G.w, G.dx, _, _, _, _, _, _, _, _, _, rfl, h2.head, ?_⟩
    have h3 := h2.upd (o' := wOx K G W.made W.left false W.on.moved)
    have i3 := i2.trans (h2.imm (o' := wOx K G W.made W.left false W.on.moved) rfl)
    refine ⟨_, rfl, G.w, G.dx, _, _, _, _, _, _, _, _, _, rfl, h3.head, _, _, rfl, rfl, _, rfl, G.w, G.dx, _, _, _, _, _, _, _, _, _, rfl, h3.head, ?_⟩
    have h4 := h3.upd (o' := (.ins (He.ga K "Watched") G.dx (flWatched G.vp (.ref G.fu) (.ref G.g.m) (.ref G.st) (.int (W.made : Nat)) G.go (.int (((W.left : Nat) : Int) - 1)) (.bl false) (.bl W.on.moved))))
    have i4 := i3.trans (h3.imm (o' := (.ins (He.ga K "Watched") G.dx (flWatched G.vp (.ref G.fu) (.ref G.g.m) (.ref G.st) (.int (W.made : Nat)) G.go (.int (((W.left : Nat) : Int) - 1)) (.bl false) (.bl W.on.moved)))) rfl)
    have A4 := hA.mono i4
    refine ⟨_, rfl, G.w, G.dx, _, _, _, _, _, _, _, _, _, rfl, h4.head, G.g.m, G.g.dx, _, rfl, h4.tail.tail.head, nmMachine_deed, ?_⟩
    refine ⟨G.g, W.M, (G.w, (.ins (He.ga K "Watched") G.dx (flWatched G.vp (.ref G.fu) (.ref G.g.m) (.ref G.st) (.int (W.made : Nat)) G.go (.int (((W.left : Nat) : Int) - 1)) (.bl false) (.bl W.on.moved)))) :: (G.st, .dK (stK W.stops G.sv)) :: R, rfl, ?_, A4.M, ok.M, ok.nx, ho, by omega, fun H5 g' eg' i5 h5 A5 => ?_⟩
    · exact h4.perm (List.perm_append_comm_assoc [(G.w, _), (G.st, _)] (mC K G.g W.M) R)
    have i05 := i4.trans i5
    have h6 := h5.perm (List.perm_append_comm_assoc (mC K g' W.M.deed) [(G.w, _), (G.st, _)] R)
    refine ⟨_, rfl, ?_⟩
    refine q2 H5 { G with g := g' } he rfl i05 ?_ ⟨hA.p.mono i05, i05.f hA.f, A5, hA.s.mono i05, hA.g.mono i05⟩
    have ew : wO K { G with g := g' } W.on = (.ins (He.ga K "Watched") G.dx (flWatched G.vp (.ref G.fu) (.ref G.g.m) (.ref G.st) (.int (W.made : Nat)) G.go (.int (((W.left : Nat) : Int) - 1)) (.bl false) (.bl W.on.moved))) := by
      show HO.ins _ _ (flWatched _ _ (.ref g'.m) _ _ _ (.int ((W.left - 1 : Nat) : Nat)) _ _) = _
      rw [eg', show V.int ((W.left - 1 : Nat) : Nat) = V.int (((W.left : Nat) : Int) - 1) by congr 1; omega]; rfl
    show Holds H5 ((G.w, wO K { G with g := g' } W.on) :: _)
    rw [ew]
    exact h6
end SD
set_option Elab.async false
set_option linter.all false
set_option maxRecDepth 100000
set_option maxHeartbeats 4000000
namespace SD
open PySem PySem.Spec PyProof.Rows L2
theorem Wd.finish_some {n : Nat} {w : Wd} {e : Ev} (h : w.event = some e) : Wd.finish n w = (e, w) := by
  cases n with
  | zero => simp [Wd.finish, h]
  | succ n => simp [Wd.finish, h]
theorem Wd.finish_none {w : Wd} (h : w.event = none) : Wd.finish w.left w = Wd.finish w.on.left w.on := by
  have := Wd.left_pos h
  obtain ⟨k, hk⟩ : ∃ k, w.left = k + 1 := ⟨w.left - 1, by omega⟩
  have hk2 : w.on.left = k := by show w.left - 1 = k; omega
  rw [hk, hk2]
  simp [Wd.finish, h]
theorem Wd.on_sum {w : Wd} (o : WOk w) (h : w.event = none) : w.on.M.done + w.on.left = w.M.done + w.left := by
  obtain ⟨f, r, d, t, e1, e2⟩ := o.M.next o.nx (Wd.event_over h)
  have h1 := deed_done e1 e2
  have h2 := Wd.left_pos h
  show w.M.deed.done + (w.left - 1) = _
  omega
def sp_Watched_finish (K : PySem.W.Frag) (w : World) : Sp := fun vs H Q _ => ∃ (G : WG) (W : Wd) (R : List (Addr × HO)), vs = [.ref G.w] ∧ Holds H (wC K G W ++ R) ∧ WAt K H G W ∧ WOk W ∧ W.M.done + W.left < sizeLine ∧
  ∀ H' G' v, G'.w = G.w → Imm H H' → Holds H' (wC K G' (Wd.finish W.left W).2 ++ R) → WAt K H' G' (Wd.finish W.left W).2 → EvAt K H' (Wd.finish W.left W).1 v → Q v H'
theorem EvAt.ne {K : PySem.W.Frag} {H : Hp} {e : Ev} {v : V} (h : EvAt K H e v) : v ≠ .non := by
  cases e <;> (obtain ⟨a, ea, _⟩ := h; rw [ea]; intro c; cases c)
abbrev n_m_Watched_finish : List Str := ["self", "told"]
def t_m_Watched_finish (K : PySem.W.Frag) (w : World)  : TS :=
 (tSeq (tAsg (tC .non) (gName 1))
 (tSeq (tWhile (tTest (tOp rIsN (tVar 1) (tC .non))) (tAsg (tMeth (He.ga K "Watched") "on" (sp_Watched_on K w) [] E0 (tVar 0) tNil) (gName 1)))
 (tRet (tVar 1))))
theorem pu_m_Watched_finish {K : PySem.W.Frag} {w : World} (vs : List V) (H : Hp) (Q : VK) (E : XK) (h : sp_Watched_finish K w vs H Q E) : t_m_Watched_finish K w { nx := fun _ H' => Q .non H', rt := Q } (start n_m_Watched_finish vs) H := by
  obtain ⟨G, W, R, rfl, hH, hA, ok, hdn, q⟩ := h
  refine ⟨fun n σ H1 => (∃ G1 W1, n = W1.left + 1 ∧ σ = [some (.ref G.w), some .non] ∧ G1.w = G.w ∧ Imm H H1 ∧ Holds H1 (wC K G1 W1 ++ R) ∧ WAt K H1 G1 W1 ∧ WOk W1 ∧ W1.M.done + W1.left < sizeLine ∧ Wd.finish W1.left W1 = Wd.finish W.left W) ∨
      (∃ G1 v, n = 0 ∧ σ = [some (.ref G.w), some v] ∧ G1.w = G.w ∧ Imm H H1 ∧ Holds H1 (wC K G1 (Wd.finish W.left W).2 ++ R) ∧ WAt K H1 G1 (Wd.finish W.left W).2 ∧ EvAt K H1 (Wd.finish W.left W).1 v),
    ⟨_, .inl ⟨G, W, rfl, rfl, rfl, .refl _, hH, hA, ok, hdn, rfl⟩⟩, ?_⟩
  rintro n σ H1 (⟨G1, W1, rfl, rfl, eg, i1, h1, A1, ok1, hd1, ef⟩ | ⟨G1, v, rfl, rfl, eg, i1, h1, A1, ev⟩)
  · refine ⟨_, rfl, rfl, _, rfl, iteT ?_⟩
    refine ⟨fun σ' H' => (∃ G2, W1.event = none ∧ σ' = [some (.ref G.w), some .non] ∧ G2.w = G.w ∧ Imm H H' ∧ Holds H' (wC K G2 W1.on ++ R) ∧ WAt K H' G2 W1.on) ∨
        (∃ v, σ' = [some (.ref G.w), some v] ∧ Imm H H' ∧ Holds H' (wC K G1 (Wd.finish W.left W).2 ++ R) ∧ WAt K H' G1 (Wd.finish W.left W).2 ∧ EvAt K H' (Wd.finish W.left W).1 v), ?_, ?_⟩
    · rintro σ' H' (⟨G2, he, rfl, eg2, i2, h2, A2⟩ | ⟨v, rfl, i2, h2, A2, ev⟩)
      · refine ⟨W1.on.left + 1, ?_, .inl ⟨G2, W1.on, rfl, rfl, eg2, i2, h2, A2, ok1.on (Wd.event_over he), by rw [Wd.on_sum ok1 he]; exact hd1, by rw [← Wd.finish_none he]; exact ef⟩⟩
        have := Wd.left_pos he
        show W1.left - 1 + 1 < W1.left + 1; omega
      · exact ⟨0, Nat.succ_pos _, .inr ⟨G1, v, rfl, rfl, eg, i2, h2, A2, ev⟩⟩
    · have h1w := h1.head
      rw [eg] at h1w
      refine ⟨_, rfl, G.w, G1.dx, _, rfl, h1w, nmWatched_on, ?_⟩
      refine ⟨G1, W1, R, by rw [eg]; rfl, h1, A1, ok1, hd1, fun e H' v he s2 hv => ?_, fun H' G' he eg' i2 h2 A2 => ?_⟩
      · have efs := Wd.finish_some (n := W1.left) he
        rw [ef] at efs
        refine .inr ⟨v, rfl, i1.trans (Imm.same s2), ?_, ?_, ?_⟩
        · rw [efs]; exact h1.same s2
        · rw [efs]; exact A1.mono (Imm.same s2)
        · rw [efs]; exact hv
      · exact .inl ⟨G', he, rfl, eg'.trans eg, i1.trans i2, h2, A2⟩
  · refine ⟨_, rfl, rfl, _, rfl, ?_⟩
    rw [decide_eq_false ev.ne]
    refine iteF ⟨_, rfl, ?_⟩
    exact q H1 G1 v eg i1 h1 A1 ev
def sp_Watched_go (K : PySem.W.Frag) (w : World) : Sp := fun vs H Q _ => ∃ (G : WG) (W : Wd) (R : List (Addr × HO)) (many : Nat), vs = [.ref G.w, .int (many : Nat)] ∧ Holds H (wC K G W ++ R) ∧ WAt K H G W ∧ WOk W ∧ many ≤ 2000 ∧ W.M.isOver = false ∧ W.M.done + many < sizeLine ∧
  ∀ H' G' v, G'.w = G.w → Imm H H' → Holds H' (wC K G' (W.go many).2 ++ R) → WAt K H' G' (W.go many).2 → EvAt K H' (W.go many).1 v → Q v H'
abbrev n_m_Watched_go : List Str := ["self", "many"]
def t_m_Watched_go (K : PySem.W.Frag) (w : World)  : TS :=
 (tSeq (tDrop (tMeth (He.ga K "Watched") "need_go" (sp_Watched_need_go K w) [] E0 (tVar 0) (tCons (tVar 1) tNil)))
 (tSeq (tDrop (tMeth (He.ga K "Watched") "begin" (sp_Watched_begin K w) [] E0 (tVar 0) (tCons (tC .non) (tCons (tVar 1) tNil))))
 (tRet (tMeth (He.ga K "Watched") "finish" (sp_Watched_finish K w) [] E0 (tVar 0) tNil))))
theorem pu_m_Watched_go {K : PySem.W.Frag} {w : World} (vs : List V) (H : Hp) (Q : VK) (E : XK) (h : sp_Watched_go K w vs H Q E) : t_m_Watched_go K w { nx := fun _ H' => Q .non H', rt := Q } (start n_m_Watched_go vs) H := by
  obtain ⟨G, W, R, many, rfl, hH, hA, ok, hm, ho, hdn, q⟩ := h
  refine ⟨_, rfl, G.w, G.dx, _, rfl, hH.head, nmWatched_need_go, _, rfl, ?_⟩
  refine ⟨G, W, R, many, rfl, hH, hA, ok.M.h3, hm, ho, fun H1 s1 => ?_⟩
  have h1 := hH.same s1
  have A1 := hA.mono (Imm.same s1)
  refine ⟨_, rfl, G.w, G.dx, _, rfl, h1.head, nmWatched_begin, _, rfl, ?_⟩
  refine ⟨G, W, R, none, .non, many, rfl, h1, A1, rfl, fun H2 i2 h2 A2 => ?_⟩
  refine ⟨_, rfl, G.w, G.dx, _, rfl, h2.head, nmWatched_finish, ?_⟩
  refine ⟨{ G with go := .non }, W.begin none many, R, rfl, h2, A2, ok.begin (fun g h => nomatch h), hdn, fun H3 G' v eg i3 h3 A3 ev => ?_⟩
  exact q H3 G' v eg ((Imm.same s1).trans (i2.trans i3)) h3 A3 ev
/-! ### Watched.__init__ -/
def sp_Watched_init (K : PySem.W.Frag) (w : World) : Sp := fun vs H Q _ => ∃ (x dx : Addr) (vp : V) (p : Prog) (R : List (Addr × HO)), vs = [.ref x, vp] ∧ Holds H ((x, .ins (He.ga K "Watched") dx []) :: R) ∧ ProgAt K H p vp ∧ p.Wf ∧
  ∀ H' G, G.w = x → Imm H H' → Holds H' (wC K G (Wd.init p) ++ R) → WAt K H' G (Wd.init p) → Q .non H'
abbrev n_m_Watched_init : List Str := ["self", "program"]
def t_m_Watched_init (K : PySem.W.Frag) (w : World)  : TS :=
 (tSeq (tDrop (tCall (sp_need_program K w) [] E0 (tCons (tVar 1) tNil)))
 (tSeq (sFld K (tVar 0) (tVar 1) "program")
 (tSeq (sFld K (tVar 0) (tOp (rIxT K) (tCall (sp_numbered K w) [] E0 (tCons (tVar 1) tNil)) (tC (.int 1))) "funs")
 (tSeq (sFld K (tVar 0) (tMake (He.ga K "Machine") (sp_Machine_init K w) [] E0 (tCons (tVar 1) tNil)) "machine")
 (tSeq (sFld K (tVar 0) tDNewK "stops")
 (tSeq (sFld K (tVar 0) (tC (.int 0)) "made")
 (tSeq (sFld K (tVar 0) (tC .non) "goal")
 (tSeq (sFld K (tVar 0) (tC (.int 0)) "left")
 (tSeq (sFld K (tVar 0) (tC (.bl true)) "first")
 (sFld K (tVar 0) (tC (.bl false)) "moved"))))))))))
theorem pu_m_Watched_init {K : PySem.W.Frag} {w : World} (F : Fcts K) (vs : List V) (H : Hp) (Q : VK) (E : XK) (h : sp_Watched_init K w vs H Q E) : t_m_Watched_init K w { nx := fun _ H' => Q .non H', rt := Q } (start n_m_Watched_init vs) H := by
  obtain ⟨x, dx, vp, p, R, rfl, hH, hp, W, q⟩ := h
  refine ⟨_, rfl, p, vp, _, rfl, hp, W, hH, fun H1 i1 h1 => ?_⟩
  refine ⟨_, rfl, _, rfl, x, _, dx, _, rfl, h1.head, F.clWatched, F.naWatched_program, (by show 0 < 1000; decide), ?_⟩
  have h2 := h1.upd (o' := .ins (He.ga K "Watched") dx (putF "program" vp []))
  have i2 := i1.trans (h1.imm (o' := .ins (He.ga K "Watched") dx (putF "program" vp [])) rfl)
  refine ⟨_, rfl, p, vp, _, rfl, hp.mono i2, W, h2, fun H3 r b fu bs i3 h3 s1 s2 s3 s4 => ?_⟩
  have i03 := i2.trans i3
  refine ⟨r, _, 1, _, rfl, rfl, s1, rfl, _, rfl, x, _, dx, _, rfl, h3.head, F.clWatched, F.naWatched_funs, (by show 1 < 1000; decide), ?_⟩
  have h4 := h3.upd (o' := .ins (He.ga K "Watched") dx (putF "funs" (.ref fu) (putF "program" vp [])))
  have i34 := h3.imm (o' := .ins (He.ga K "Watched") dx (putF "funs" (.ref fu) (putF "program" vp []))) rfl
  have i4 := i03.trans i34
  have s4 := i34.f s4
  generalize upd H3 x (.ins (He.ga K "Watched") dx (putF "funs" (.ref fu) (putF "program" vp []))) = H4 at h4 i4 s4
  refine ⟨_, rfl, fun m mdx hm hmd hne => ?_⟩
  have hm2 : upd H4 mdx (.own m) m = none := by rw [upd_ne hne.symm]; exact hm
  have h5 := (h4.skip (o := .own m) hmd).new (o := .ins (He.ga K "Machine") mdx []) hm2
  have i5 := (Imm.new (o := .own m) hmd).trans (Imm.new (o := .ins (He.ga K "Machine") mdx []) hm2)
  refine ⟨m, mdx, vp, p, _, rfl, h5, (hp.mono i4).mono i5, W, fun H6 g eg i6 h6 A6 => ⟨rfl, ?_⟩⟩
  subst eg
  have i46 := i5.trans i6
  have h6 : Holds H6 ((x, .ins (He.ga K "Watched") dx (putF "funs" (.ref fu) (putF "program" vp []))) :: (mC K g p.mach ++ R)) := h6.perm (List.perm_append_comm_assoc (mC K g p.mach) [(x, _)] R)
  refine ⟨_, rfl, x, _, dx, _, rfl, h6.head, F.clWatched, F.naWatched_machine, (by show 2 < 1000; decide), ?_⟩
  have h7 := h6.upd (o' := .ins (He.ga K "Watched") dx (putF "machine" (.ref g.m) (putF "funs" (.ref fu) (putF "program" vp []))))
  have i7 := h6.imm (o' := .ins (He.ga K "Watched") dx (putF "machine" (.ref g.m) (putF "funs" (.ref fu) (putF "program" vp [])))) rfl
  generalize upd H6 x (.ins (He.ga K "Watched") dx (putF "machine" (.ref g.m) (putF "funs" (.ref fu) (putF "program" vp [])))) = H7 at h7 i7
  intro st hst
  have h8 := h7.new (o := .dK []) hst
  have i8 := Imm.new (o := .dK []) hst
  refine ⟨_, rfl, x, _, dx, _, rfl, h8.tail.head, F.clWatched, F.naWatched_stops, (by show 3 < 1000; decide), ?_⟩
  have h9 := (h8.pull 1 rfl).upd (o' := .ins (He.ga K "Watched") dx (putF "stops" (.ref st) (putF "machine" (.ref g.m) (putF "funs" (.ref fu) (putF "program" vp [])))))
  have i9 : Imm (upd H7 st (.dK [])) (upd (upd H7 st (.dK [])) x (.ins (He.ga K "Watched") dx (putF "stops" (.ref st) (putF "machine" (.ref g.m) (putF "funs" (.ref fu) (putF "program" vp [])))))) := Imm.upd h8.tail.head rfl
  have i79 := i8.trans i9
  generalize upd (upd H7 st (.dK [])) x (.ins (He.ga K "Watched") dx (putF "stops" (.ref st) (putF "machine" (.ref g.m) (putF "funs" (.ref fu) (putF "program" vp []))))) = H9 at h9 i79
  have h9 : Holds H9 ((x, .ins (He.ga K "Watched") dx (putF "stops" (.ref st) (putF "machine" (.ref g.m) (putF "funs" (.ref fu) (putF "program" vp []))))) :: (st, .dK []) :: (mC K g p.mach ++ R)) := h9
  refine ⟨_, rfl, x, _, dx, _, rfl, h9.head, F.clWatched, F.naWatched_made, (by show 4 < 1000; decide), ?_⟩
  have h10 := h9.upd (o' := .ins (He.ga K "Watched") dx (putF "made" (.int 0) (putF "stops" (.ref st) (putF "machine" (.ref g.m) (putF "funs" (.ref fu) (putF "program" vp []))))))
  have i10 := i79.trans (h9.imm (o' := .ins (He.ga K "Watched") dx (putF "made" (.int 0) (putF "stops" (.ref st) (putF "machine" (.ref g.m) (putF "funs" (.ref fu) (putF "program" vp [])))))) rfl)
  refine ⟨_, rfl, x, _, dx, _, rfl, h10.head, F.clWatched, F.naWatched_goal, (by show 5 < 1000; decide), ?_⟩
  have h11 := h10.upd (o' := .ins (He.ga K "Watched") dx (putF "goal" .non (putF "made" (.int 0) (putF "stops" (.ref st) (putF "machine" (.ref g.m) (putF "funs" (.ref fu) (putF "program" vp [])))))))
  have i11 := i10.trans (h10.imm (o' := .ins (He.ga K "Watched") dx (putF "goal" .non (putF "made" (.int 0) (putF "stops" (.ref st) (putF "machine" (.ref g.m) (putF "funs" (.ref fu) (putF "program" vp []))))))) rfl)
  refine ⟨_, rfl, x, _, dx, _, rfl, h11.head, F.clWatched, F.naWatched_left, (by show 6 < 1000; decide), ?_⟩
  have h12 := h11.upd (o' := .ins (He.ga K "Watched") dx (putF "left" (.int 0) (putF "goal" .non (putF "made" (.int 0) (putF "stops" (.ref st) (putF "machine" (.ref g.m) (putF "funs" (.ref fu) (putF "program" vp []))))))))
  have i12 := i11.trans (h11.imm (o' := .ins (He.ga K "Watched") dx (putF "left" (.int 0) (putF "goal" .non (putF "made" (.int 0) (putF "stops" (.ref st) (putF "machine" (.ref g.m) (putF "funs" (.ref fu) (putF "program" vp [])))))))) rfl)
  refine ⟨_, rfl, x, _, dx, _, rfl, h12.head, F.clWatched, F.naWatched_first, (by show 7 < 1000; decide), ?_⟩
  have h13 := h12.upd (o' := .ins (He.ga K "Watched") dx (putF "first" (.bl true) (putF "left" (.int 0) (putF "goal" .non (putF "made" (.int 0) (putF "stops" (.ref st) (putF "machine" (.ref g.m) (putF "funs" (.ref fu) (putF "program" vp [])))))))))
  have i13 := i12.trans (h12.imm (o' := .ins (He.ga K "Watched") dx (putF "first" (.bl true) (putF "left" (.int 0) (putF "goal" .non (putF "made" (.int 0) (putF "stops" (.ref st) (putF "machine" (.ref g.m) (putF "funs" (.ref fu) (putF "program" vp []))))))))) rfl)
  refine ⟨_, rfl, x, _, dx, _, rfl, h13.head, F.clWatched, F.naWatched_moved, (by show 8 < 1000; decide), ?_⟩
  rw [inWatched]
  have h14 := h13.upd (o' := .ins (He.ga K "Watched") dx (flWatched vp (.ref fu) (.ref g.m) (.ref st) (.int 0) .non (.int 0) (.bl true) (.bl false)))
  have i14 := i13.trans (h13.imm (o' := .ins (He.ga K "Watched") dx (flWatched vp (.ref fu) (.ref g.m) (.ref st) (.int 0) .non (.int 0) (.bl true) (.bl false))) rfl)
  have i4e := i46.trans (i7.trans i14)
  exact q _ ⟨x, dx, vp, fu, [], st, [], .non, g⟩ rfl (i4.trans i4e) h14 ⟨hp.mono (i4.trans i4e), i4e.f s4, A6.mono (i7.trans i14), rfl, rfl⟩
end SD
set_option Elab.async false
set_option linter.all false
set_option maxRecDepth 100000
set_option maxHeartbeats 4000000
namespace SD
open PySem PySem.Spec PyProof.Rows L2
/-! ### stop -/
theorem handV_ne {h : Option Nat} : (handV h = .non) ↔ h = none := by cases h <;> simp [handV]
theorem WishAt.isN {K : PySem.W.Frag} {H : Hp} {y : Option Pt} {v : V} (h : WishAt K H y v) : decide (v = .non) = y.isNone := by
  cases y with
  | none => rw [show v = .non from h]; rfl
  | some y => exact decide_eq_false h.2
def sp_Watched_stop (K : PySem.W.Frag) (w : World) : Sp := fun vs H Q _ => ∃ (G : WG) (W : Wd) (R : List (Addr × HO)) (s : Stop) (vw : V), vs = [.ref G.w, .int (s.place : Nat), handV s.hand, vw] ∧ Holds H (wC K G W ++ R) ∧ WAt K H G W ∧ WOk W ∧ WishAt K H s.wish vw ∧ s.place < W.p.pfuns.length ∧ (∀ k, s.hand = some k → k < W.M.hands.length) ∧
  (∀ y, s.wish = some y → WishOk W.p s.place y) ∧ W.stops.length < 20 ∧ ∀ H' G', G'.w = G.w → Imm H H' → Holds H' (wC K G' (W.stopAt s) ++ R) → WAt K H' G' (W.stopAt s) → Q (.int (W.made : Nat)) H'
abbrev n_m_Watched_stop : List Str := ["self", "place", "hand", "wish"]
def t_m_Watched_stop (K : PySem.W.Frag) (w : World)  : TS :=
 (tSeq (tIfS (tNot (tTest (tChain (rI0 fun i j => .bl (decide (i ≤ j))) (rI0 fun i j => .bl (decide (i < j))) (tC (.int 0)) (tVar 1) (tCB (rLenS' K) (tCons (xfWatched_funs K (tVar 0)) tNil))))) tNever tNext)
 (tSeq (tIfS (tTest (tOp rNotN (tVar 2) (tC .non))) (tDrop (tMeth (He.ga K "Watched") "need_hand" (sp_Watched_need_hand K w) [] E0 (tVar 0) (tCons (tVar 2) tNil))) tNext)
 (tSeq (tIfS (tAnd (tTest (tOp rNotN (tVar 3) (tC .non))) (tNot (tB (tCall (sp_is_wish K w) [] E0 (tCons (tVar 3) (tCons (xfWatched_program K (tVar 0)) (tCons (tOp (rIxL K) (xfWatched_funs K (tVar 0)) (tVar 1)) tNil))))))) tNever tNext)
 (tSeq (tIfS (tTest (tOp rEq (tCB rLenD (tCons (xfWatched_stops K (tVar 0)) tNil)) (tC (.int 20)))) tNever tNext)
 (tSeq (sDPut (xfWatched_stops K (tVar 0)) (xfWatched_made K (tVar 0)) (tTup (tCons (tVar 1) (tCons (tVar 2) (tCons (tVar 3) tNil)))))
 (tSeq (xsWatched_made K (tVar 0) (tOp (rI0 fun i j => .int (i + j)) (xfWatched_made K (tVar 0)) (tC (.int 1))))
 (tRet (tOp (rI0 fun i j => .int (i - j)) (xfWatched_made K (tVar 0)) (tC (.int 1))))))))))
theorem pu_m_Watched_stop {K : PySem.W.Frag} {w : World} (vs : List V) (H : Hp) (Q : VK) (E : XK) (h : sp_Watched_stop K w vs H Q E) : t_m_Watched_stop K w { nx := fun _ H' => Q .non H', rt := Q } (start n_m_Watched_stop vs) H := by
  obtain ⟨G, W, R, s, vw, rfl, hH, hA, ok, hw, hp, hh, hwish, h20, q⟩ := h
  have hsl := hA.s.len
  refine ⟨_, rfl, _, _, rfl, rfl, _, rfl, iteDT (by omega) ⟨_, rfl, G.w, G.dx, _, _, _, _, _, _, _, _, _, rfl, hH.head, _, _, rfl, .inl hA.f.l, _, _, rfl, rfl, _, rfl, iteNF (by rw [List.length_map]; omega) ?_⟩⟩
  have third : ∀ H1, Imm H H1 → Holds H1 (wC K G W ++ R) →
      (tSeq (tIfS (tTest (tOp rEq (tCB rLenD (tCons (xfWatched_stops K (tVar 0)) tNil)) (tC (.int 20)))) tNever tNext)
 (tSeq (sDPut (xfWatched_stops K (tVar 0)) (xfWatched_made K (tVar 0)) (tTup (tCons (tVar 1) (tCons (tVar 2) (tCons (tVar 3) tNil)))))
 (tSeq (xsWatched_made K (tVar 0) (tOp (rI0 fun i j => .int (i + j)) (xfWatched_made K (tVar 0)) (tC (.int 1))))
 (tRet (tOp (rI0 fun i j => .int (i - j)) (xfWatched_made K (tVar 0)) (tC (.int 1))))))) { nx := fun _ H' => Q .non H', rt := Q } [some (.ref G.w), some (.int (s.place : Nat)), some (handV s.hand), some vw] H1 := by
    intro H1 i1 h1
    have hkl : (stK W.stops G.sv).length = W.stops.length := by rw [stK, List.length_map, List.length_zip, hsl]; exact Nat.min_self _
    refine ⟨_, rfl, G.w, G.dx, _, _, _, _, _, _, _, _, _, rfl, h1.head, _, _, rfl, h1.tail.head, rfl, _, rfl, ite2 (fun c => ?_) fun _ => ?_⟩
    · have := V.int.inj (of_decide_eq_true c); rw [hkl] at this; omega
    refine ⟨_, rfl, _, rfl, _, rfl, (by show 3 ≤ sizeLine; decide), fun t ht => ?_⟩
    have h2 := h1.skip (o := .tup [.int (s.place : Nat), handV s.hand, vw]) ht
    have i2 := Imm.new (o := .tup [.int (s.place : Nat), handV s.hand, vw]) ht
    refine ⟨_, rfl, G.w, G.dx, _, _, _, _, _, _, _, _, _, rfl, h2.head, _, rfl, G.w, G.dx, _, _, _, _, _, _, _, _, _, rfl, h2.head, G.st, _, rfl, DPut.k (k := Sum.inl (W.made : Int)) h2.tail.head (Nat.lt_of_lt_of_le (by rw [hkl]; exact h20) (by decide)), ?_⟩
    rw [putK_new _ (stK_none ok.low), ← stK_snoc hsl (W.made, s) t]
    have h3 := h2.set 1 (o' := .dK (stK (W.stops ++ [(W.made, s)]) (G.sv ++ [t]))) rfl
    have i3 : Imm _ (upd _ G.st (.dK (stK (W.stops ++ [(W.made, s)]) (G.sv ++ [t])))) := Imm.upd h2.tail.head rfl
    have h3 : Holds _ ((G.w, wO K G W) :: (G.st, .dK (stK (W.stops ++ [(W.made, s)]) (G.sv ++ [t]))) :: (mC K G.g W.M ++ R)) := h3
    refine ⟨_, rfl, G.w, G.dx, _, _, _, _, _, _, _, _, _, rfl, h3.head, _, _, rfl, rfl, _, rfl, G.w, G.dx, _, _, _, _, _, _, _, _, _, rfl, h3.head, ?_⟩
    have h4 := h3.upd (o' := wO K { G with sv := G.sv ++ [t] } (W.stopAt s))
    have i4 := i3.trans (h3.imm (o' := wO K { G with sv := G.sv ++ [t] } (W.stopAt s)) rfl)
    refine ⟨_, rfl, G.w, G.dx, _, _, _, _, _, _, _, _, _, rfl, h4.head, _, _, rfl, rfl, ?_⟩
    have i14 := i2.trans i4
    have i04 := i1.trans i14
    have A4 := hA.mono i04
    show Q (.int (((W.made + 1 : Nat) : Int) - 1)) _
    rw [show (((W.made + 1 : Nat) : Int) - 1) = (W.made : Nat) by omega]
    refine q _ { G with sv := G.sv ++ [t] } rfl i04 h4 ⟨A4.p, A4.f, A4.M, ?_, A4.g⟩
    exact StopsAt.app A4.s ⟨t, [], vw, rfl, i4.t (.inl (.inl upd_same)), hw.mono i04, rfl⟩
  have second : (tSeq (tIfS (tAnd (tTest (tOp rNotN (tVar 3) (tC .non))) (tNot (tB (tCall (sp_is_wish K w) [] E0 (tCons (tVar 3) (tCons (xfWatched_program K (tVar 0)) (tCons (tOp (rIxL K) (xfWatched_funs K (tVar 0)) (tVar 1)) tNil))))))) tNever tNext)
 (tSeq (tIfS (tTest (tOp rEq (tCB rLenD (tCons (xfWatched_stops K (tVar 0)) tNil)) (tC (.int 20)))) tNever tNext)
 (tSeq (sDPut (xfWatched_stops K (tVar 0)) (xfWatched_made K (tVar 0)) (tTup (tCons (tVar 1) (tCons (tVar 2) (tCons (tVar 3) tNil)))))
 (tSeq (xsWatched_made K (tVar 0) (tOp (rI0 fun i j => .int (i + j)) (xfWatched_made K (tVar 0)) (tC (.int 1))))
 (tRet (tOp (rI0 fun i j => .int (i - j)) (xfWatched_made K (tVar 0)) (tC (.int 1)))))))) { nx := fun _ H' => Q .non H', rt := Q } [some (.ref G.w), some (.int (s.place : Nat)), some (handV s.hand), some vw] H := by
    refine ⟨_, rfl, rfl, _, rfl, ?_⟩
    rw [hw.isN]
    cases ey : s.wish with
    | none =>
      refine iteF ?_
      show if false = true then _ else _
      exact iteF (third H (Imm.refl _) hH)
    | some y =>
      refine iteT ?_
      have hy := hw
      rw [ey] at hy
      obtain ⟨fn, g, k1, k2, k3, k4, k5⟩ := hwish y ey
      have k6 : (W.p.pfuns.map fun n => V.int (n : Nat))[s.place]? = some (.int (fn : Nat)) := by rw [List.getElem?_map, k1]; rfl
      refine ⟨_, rfl, _, rfl, G.w, G.dx, _, _, _, _, _, _, _, _, _, rfl, hH.head, _, rfl, G.w, G.dx, _, _, _, _, _, _, _, _, _, rfl, hH.head, _, rfl, G.fu, _, _, _, rfl, rfl, hA.f.l, atI_nat k6, ?_⟩
      refine ⟨W.p, G.vp, vw, fn, g, y, _, rfl, hA.p, k2, hy.1, k3, k4, k5, hH, fun H1 i1 h1 => ⟨_, rfl, ?_⟩⟩
      show if (!true) = true then _ else _
      exact iteF (third H1 i1 h1)
  refine ⟨_, rfl, rfl, _, rfl, ?_⟩
  cases eh : s.hand with
  | none =>
    rw [eh] at second
    exact iteF second
  | some k =>
    rw [eh] at second
    refine iteT ?_
    refine ⟨_, rfl, G.w, G.dx, _, rfl, hH.head, nmWatched_need_hand, _, rfl, ?_⟩
    exact ⟨G, W, R, k, rfl, hH, hA, hh k eh, second⟩
/-! ### frame, look, stack -/
theorem frsC_get {K : PySem.W.Frag} : ∀ {gs : List FG} {fs : List Fr} {j : Nat} {g : FG} {f : Fr}, gs[j]? = some g → fs[j]? = some f → (g.x, frO K g f) ∈ frsC K gs fs ∧ (g.na, HO.lst (f.names.map V.int)) ∈ frsC K gs fs
  | [], _, j, g, f, e, _ => by simp at e
  | _ :: _, [], j, g, f, _, e => by simp at e
  | x :: r, y :: s, 0, g, f, e1, e2 => by
    simp at e1 e2; subst e1; subst e2
    exact ⟨List.mem_cons_self .., List.mem_cons_of_mem _ (List.mem_cons_self ..)⟩
  | x :: r, y :: s, j + 1, g, f, e1, e2 => by
    have := frsC_get (K := K) (gs := r) (fs := s) (j := j) (by simpa using e1) (by simpa using e2)
    exact ⟨List.mem_append_right _ this.1, List.mem_append_right _ this.2⟩
theorem atI_back (gs : List FG) {j : Nat} {g : FG} (e : gs[j]? = some g) : atI (hlV gs) (-1 - (j : Nat)) = some (.ref g.x) := by
  have hj : j < gs.length := (List.getElem?_eq_some_iff.mp e).1
  unfold atI ixN
  rw [hlV_len, if_neg (by omega), if_pos (by omega)]
  show (hlV gs)[(-1 - (j : Int) + (gs.length : Int)).toNat]? = _
  rw [show (-1 - (j : Int) + (gs.length : Int)).toNat = gs.length - 1 - j by omega]
  unfold hlV
  rw [List.getElem?_reverse (by rw [List.length_map]; omega), List.length_map, List.getElem?_map, show gs.length - 1 - (gs.length - 1 - j) = j by omega, e]
  rfl
def sp_Watched_frame (K : PySem.W.Frag) (w : World) : Sp := fun vs H Q _ => ∃ (G : WG) (W : Wd) (R : List (Addr × HO)) (k deep : Nat) (hl : Addr) (gs : List FG) (g : FG), vs = [.ref G.w, .int (k : Nat), .int (deep : Nat)] ∧ Holds H (wC K G W ++ R) ∧ WAt K H G W ∧ k < W.M.hands.length ∧
  G.g.hsv[k]? = some (.ref hl) ∧ H hl = some (.lst (hlV gs)) ∧ gs[deep]? = some g ∧ Q (.ref g.x) H
abbrev n_m_Watched_frame : List Str := ["self", "hand", "deep", "frames"]
def t_m_Watched_frame (K : PySem.W.Frag) (w : World)  : TS :=
 (tSeq (tDrop (tMeth (He.ga K "Watched") "need_hand" (sp_Watched_need_hand K w) [] E0 (tVar 0) (tCons (tVar 1) tNil)))
 (tSeq (tAsg (tOp (rIxL K) (xfMachine_hands K (xfWatched_machine K (tVar 0))) (tVar 1)) (gName 3))
 (tSeq (tIfS (tOr (tNot (tB (tCall (sp_is_number K w) [] E0 (tCons (tVar 2) tNil)))) (tNot (tTest (tChain (rI0 fun i j => .bl (decide (i ≤ j))) (rI0 fun i j => .bl (decide (i < j))) (tC (.int 0)) (tVar 2) (tCB (rLenS' K) (tCons (tVar 3) tNil)))))) tNever tNext)
 (tRet (tOp (rIxL K) (tVar 3) (tOp (rI0 fun i j => .int (i - j)) (tUn (rU fun i => .int (-i)) (tC (.int 1))) (tVar 2)))))))
theorem pu_m_Watched_frame {K : PySem.W.Frag} {w : World} (vs : List V) (H : Hp) (Q : VK) (E : XK) (h : sp_Watched_frame K w vs H Q E) : t_m_Watched_frame K w { nx := fun _ H' => Q .non H', rt := Q } (start n_m_Watched_frame vs) H := by
  obtain ⟨G, W, R, k, deep, hl, gs, g, rfl, hH, hA, hk, e1, e2, e3, q⟩ := h
  have hd : deep < gs.length := (List.getElem?_eq_some_iff.mp e3).1
  refine ⟨_, rfl, G.w, G.dx, _, rfl, hH.head, nmWatched_need_hand, _, rfl, ?_⟩
  refine ⟨G, W, R, k, rfl, hH, hA, hk, ?_⟩
  refine ⟨_, rfl, G.w, G.dx, _, _, _, _, _, _, _, _, _, rfl, hH.head, G.g.m, G.g.dx, _, _, _, _, _, _, _, rfl, hH.tail.tail.head, _, rfl, G.g.hs, _, _, _, rfl, rfl, hA.M.sf.l, atI_nat e1, ?_⟩
  refine ⟨_, rfl, _, rfl, _, rfl, ?_⟩
  show if (!true) = true then _ else _
  refine iteF ?_
  refine ⟨_, rfl, _, _, rfl, rfl, _, rfl, iteDT (by omega) ⟨_, rfl, _, _, rfl, .inl (SqL.of e2), _, _, rfl, rfl, _, rfl, iteNF (by rw [hlV_len]; omega) ?_⟩⟩
  refine ⟨_, rfl, 1, rfl, _, rfl, _, _, rfl, rfl, hl, _, _, _, rfl, rfl, SqL.of e2, atI_back gs e3, ?_⟩
  exact q
def sp_Watched_look (K : PySem.W.Frag) (w : World) : Sp := fun vs H Q _ => ∃ (G : WG) (W : Wd) (R : List (Addr × HO)) (k deep : Nat) (fs : List Fr) (f : Fr), vs = [.ref G.w, .int (k : Nat), .int (deep : Nat)] ∧ Holds H (wC K G W ++ R) ∧ WAt K H G W ∧ W.M.hands[k]? = some fs ∧ fs[deep]? = some f ∧
  ∀ H' l, Same H H' → Holds H' ((l, .lst (f.names.map V.int)) :: (wC K G W ++ R)) → Q (.ref l) H'
abbrev n_m_Watched_look : List Str := ["self", "hand", "deep"]
def t_m_Watched_look (K : PySem.W.Frag) (w : World)  : TS :=
 (tRet (tCB (rListOf K) (tCons (xfFrame_names K (tMeth (He.ga K "Watched") "frame" (sp_Watched_frame K w) [] E0 (tVar 0) (tCons (tVar 1) (tCons (tVar 2) tNil)))) tNil)))
theorem pu_m_Watched_look {K : PySem.W.Frag} {w : World} (vs : List V) (H : Hp) (Q : VK) (E : XK) (h : sp_Watched_look K w vs H Q E) : t_m_Watched_look K w { nx := fun _ H' => Q .non H', rt := Q } (start n_m_Watched_look vs) H := by
  obtain ⟨G, W, R, k, deep, fs, f, rfl, hH, hA, e, ef, q⟩ := h
  obtain ⟨hl, gs, Rest, a1, a2, a3, _⟩ := hands_split hA.M.s e
  have h2 := hH.tail.tail.tail.tail.tail.perm (List.Perm.append_right R a3)
  have eat : G.g.hsv[k]? = some (.ref hl) := by rw [MG.hsv, List.getElem?_map, a1]; rfl
  have hd : deep < gs.length := by rw [a2.len]; exact (List.getElem?_eq_some_iff.mp ef).1
  have eg : gs[deep]? = some gs[deep] := List.getElem?_eq_getElem hd
  obtain ⟨m1, m2⟩ := frsC_get (K := K) eg ef
  have w1 := h2.get (List.mem_append_left R (List.mem_append_left Rest (List.mem_cons_of_mem (hl, HO.lst (hlV gs)) m1)))
  have w2 := h2.get (List.mem_append_left R (List.mem_append_left Rest (List.mem_cons_of_mem (hl, HO.lst (hlV gs)) m2)))
  refine ⟨_, rfl, G.w, G.dx, _, rfl, hH.head, nmWatched_frame, _, rfl, _, rfl, ?_⟩
  refine ⟨G, W, R, k, deep, hl, gs, gs[deep], rfl, hH, hA, (List.getElem?_eq_some_iff.mp e).1, eat, h2.head, eg, ?_⟩
  refine ⟨_, _, _, _, _, _, rfl, w1, _, _, rfl, .inl (SqL.of w2), fun l hl2 => ?_⟩
  exact q _ l (same_new hl2 _) (hH.new hl2)
/-! ### stack -/
def Mach.stack (M : Mach) (k : Nat) : List (Nat × Option Nat) := match M.hands.getD k [] with
  | [] => []
  | f :: r => (f.fn, some (M.place k)) :: r.map fun g => (g.fn, g.at_)
def StkAt (K : PySem.W.Frag) (H : Hp) : List (Nat × Option Nat) → List V → Prop
  | [], vs => vs = []
  | x :: r, vs => ∃ a s, vs = .ref a :: s ∧ SqT K H a [.int (x.1 : Nat), atV x.2] ∧ StkAt K H r s
section
variable {K : PySem.W.Frag} {H H' : Hp}
theorem StkAt.mono (i : Imm H H') : ∀ {t : List (Nat × Option Nat)} {v : List V}, StkAt K H t v → StkAt K H' t v
  | [], v, h => h
  | t :: r, v, ⟨a, s, e, h, h1⟩ => ⟨a, s, e, i.t h, StkAt.mono i h1⟩
theorem StkAt.len : ∀ {t : List (Nat × Option Nat)} {v : List V}, StkAt K H t v → v.length = t.length
  | [], v, h => by rw [show v = [] from h]; rfl
  | t :: r, v, ⟨a, s, e, h, h1⟩ => by rw [e, List.length_cons, List.length_cons, StkAt.len h1]
end
theorem cut_last (xs : List V) : cutV xs none (some (-1)) = xs.dropLast := by
  unfold cutV
  rw [show HT.sIx xs.length 0 none = 0 from rfl, List.drop_zero, Nat.sub_zero]
  have : HT.sIx xs.length xs.length (some (-1)) = xs.length - 1 := by
    show (if (-1 : Int) < 0 then ((-1 : Int) + (xs.length : Int)).toNat else min (-1 : Int).toNat xs.length) = _
    rw [if_pos (by decide)]; omega
  rw [this, List.dropLast_eq_take]
def sp_Watched_stack (K : PySem.W.Frag) (w : World) : Sp := fun vs H Q _ => ∃ (G : WG) (W : Wd) (R : List (Addr × HO)) (k : Nat), vs = [.ref G.w, .int (k : Nat)] ∧ Holds H (wC K G W ++ R) ∧ WAt K H G W ∧ WOk W ∧ k < W.M.hands.length ∧
  ∀ H' l xs, Same H H' → Holds H' ((l, .lst xs) :: (wC K G W ++ R)) → StkAt K H' (W.M.stack k) xs → Q (.ref l) H'
abbrev n_m_Watched_stack : List Str := ["self", "hand", "frames", "found", "frame"]
def t_m_Watched_stack (K : PySem.W.Frag) (w : World)  : TS :=
 (tSeq (tDrop (tMeth (He.ga K "Watched") "need_hand" (sp_Watched_need_hand K w) [] E0 (tVar 0) (tCons (tVar 1) tNil)))
 (tSeq (tAsg (tOp (rIxL K) (xfMachine_hands K (xfWatched_machine K (tVar 0))) (tVar 1)) (gName 2))
 (tSeq (tAsg (tLc (iList K (tSl (rSlL K) (tVar 2) tNoPart (tPart (tUn (rU fun i => .int (-i)) (tC (.int 1)))))) (gName 4) tYes (tTup (tCons (xfFrame_fun K (tVar 4)) (tCons (xfFrame_at K (tVar 4)) tNil))) [4]) (gName 3))
 (tSeq (tIfS (tTest (tOp (rEqNil K true) (tVar 2) (tLst tNil))) (tDrop (tBM K "list" rAppend (tVar 3) (tCons (tTup (tCons (xfFrame_fun K (tOp (rIxL K) (tVar 2) (tUn (rU fun i => .int (-i)) (tC (.int 1))))) (tCons (tMeth (He.ga K "Machine") "next_place" (sp_Machine_next_place K w) [] E0 (xfWatched_machine K (tVar 0)) (tCons (tVar 1) tNil)) tNil))) tNil))) tNext)
 (tRet (tRevL K (tVar 3)))))))
theorem pu_m_Watched_stack {K : PySem.W.Frag} {w : World} (vs : List V) (H : Hp) (Q : VK) (E : XK) (h : sp_Watched_stack K w vs H Q E) : t_m_Watched_stack K w { nx := fun _ H' => Q .non H', rt := Q } (start n_m_Watched_stack vs) H := by
  obtain ⟨G, W, R, k, rfl, hH, hA, ok, hk, q⟩ := h
  have e : W.M.hands[k]? = some W.M.hands[k] := List.getElem?_eq_getElem hk
  obtain ⟨hs1, _, hs3, hs4⟩ := ok.M.hs _ (List.mem_of_getElem? e)
  generalize W.M.hands[k] = fs at e hs1 hs3 hs4
  obtain ⟨hl, gs, Rest, a1, a2, a3, _⟩ := hands_split hA.M.s e
  have eat : G.g.hsv[k]? = some (.ref hl) := by rw [MG.hsv, List.getElem?_map, a1]; rfl
  have cell : ∀ {H1 : Hp}, Holds H1 (wC K G W ++ R) → Holds H1 (hC K hl gs fs ++ Rest ++ R) := fun h => h.tail.tail.tail.tail.tail.perm (List.Perm.append_right R a3)
  have hhl := (cell hH).head
  have hgl := a2.len
  refine ⟨_, rfl, G.w, G.dx, _, rfl, hH.head, nmWatched_need_hand, _, rfl, ?_⟩
  refine ⟨G, W, R, k, rfl, hH, hA, hk, ?_⟩
  refine ⟨_, rfl, G.w, G.dx, _, _, _, _, _, _, _, _, _, rfl, hH.head, G.g.m, G.g.dx, _, _, _, _, _, _, _, rfl, hH.tail.tail.head, _, rfl, G.g.hs, _, _, _, rfl, rfl, hA.M.sf.l, atI_nat eat, ?_⟩
  refine ⟨_, rfl, 1, rfl, _, rfl, hl, _, rfl, SqL.of hhl, fun p hp => ?_⟩
  rw [cut_last]
  have h1 := hH.new (o := .lst (hlV gs).dropLast) hp
  have s1 := same_new hp (.lst (hlV gs).dropLast)
  refine ⟨p, rfl, ⟨_, SqL.of upd_same⟩, fun D hD => ?_⟩
  -- the lower frames, outermost first
  refine lc_it (walk_list (xs := (hlV gs).dropLast)) (fun i H2 => ∃ zs, Same H H2 ∧ Holds H2 ((D, .lst zs) :: (p, .lst (hlV gs).dropLast) :: (wC K G W ++ R)) ∧ StkAt K H2 ((fs.drop (fs.length - i)).map fun g => (g.fn, g.at_)) zs.reverse ∧ zs.length = i)
    ⟨[], s1.trans (same_new hD _), h1.new hD, by simp [StkAt], rfl⟩ (fun i H2 _ ⟨_, _, hh, _⟩ => SqL.of hh.tail.head) (fun i u H2 H3 hlt hP hY => ?_) fun H2 hP => ?_
  · obtain ⟨zs, s2, h2, hz, hzl⟩ := hP
    obtain ⟨rfl, hu⟩ := hY
    rw [List.length_dropLast, hlV_len] at hlt
    have hj : fs.length - (i + 1) < fs.length := by omega
    have eg : gs[fs.length - (i + 1)]? = some gs[fs.length - (i + 1)] := List.getElem?_eq_getElem (by omega)
    have ef : fs[fs.length - (i + 1)]? = some fs[fs.length - (i + 1)] := List.getElem?_eq_getElem hj
    have hu2 : u = .ref (gs[fs.length - (i + 1)]'(by omega)).x := by
      rw [List.getElem?_dropLast, if_pos (by rw [hlV_len]; exact hlt)] at hu
      unfold hlV at hu
      rw [List.getElem?_reverse (by rw [List.length_map]; omega), List.length_map, List.getElem?_map, show gs.length - 1 - i = fs.length - (i + 1) by omega, eg] at hu
      exact (Option.some.inj hu).symm
    subst hu2
    obtain ⟨m1, _⟩ := frsC_get (K := K) eg ef
    have w1 := (cell h2.tail.tail).get (List.mem_append_left R (List.mem_append_left Rest (List.mem_cons_of_mem (hl, HO.lst (hlV gs)) m1)))
    refine ⟨rfl, _, rfl, _, _, _, _, _, _, rfl, w1, _, rfl, _, _, _, _, _, _, rfl, w1, (by show 2 ≤ sizeLine; decide), fun t ht => ?_⟩
    have h3 := h2.skip (o := .tup [.int ((fs[fs.length - (i + 1)]).fn : Nat), atV (fs[fs.length - (i + 1)]).at_]) ht
    have i3 := Imm.new (o := .tup [.int ((fs[fs.length - (i + 1)]).fn : Nat), atV (fs[fs.length - (i + 1)]).at_]) ht
    refine ⟨zs, h3.head, small1000 (by omega), zs ++ [.ref t], same_at (s2.trans (same_new ht _)) ?_, h3.upd, ?_, by rw [List.length_append, hzl]; rfl⟩
    · cases hDD : H D with
      | none => rfl
      | some o => have := s1 D o hDD; rw [hD] at this; cases this
    · rw [List.reverse_append, show fs.drop (fs.length - (i + 1)) = fs[fs.length - (i + 1)] :: fs.drop (fs.length - i) from by
        rw [List.drop_eq_getElem_cons hj, show fs.length - (i + 1) + 1 = fs.length - i by omega]]
      exact ⟨t, zs.reverse, rfl, (h3.imm rfl).t (.inl (.inl upd_same)), hz.mono (i3.trans (h3.imm rfl))⟩
  · obtain ⟨zs, s2, h2, hz, hzl⟩ := hP
    rw [List.length_dropLast, hlV_len, hgl] at hz hzl
    have hh := (cell h2.tail.tail).head
    refine ⟨_, rfl, Nat.zero_le _, fun p2 hp2 => ?_⟩
    have h3 := h2.skip (o := .lst []) hp2
    have s3 := s2.trans (same_new hp2 (.lst []))
    have i3 := Imm.new (o := .lst []) hp2
    refine ⟨hl, p2, _, rfl, rfl, SqL.of ((same_new hp2 _) _ _ hh), SqL.of upd_same, _, rfl, ?_⟩
    have hz3 := hz.mono i3
    generalize upd H2 p2 (.lst []) = H3 at h3 s3 hz3
    have fin : ∀ (H4 : Hp) (ys : List V) (x5 : Option V), Same H H4 → Holds H4 ((D, .lst ys) :: (p, .lst (hlV gs).dropLast) :: (wC K G W ++ R)) → StkAt K H4 (W.M.stack k) ys.reverse →
        (tRet (tRevL K (tVar 3))) { nx := fun _ H' => Q .non H', rt := Q } [some (.ref G.w), some (.int (k : Nat)), some (.ref hl), some (.ref D), x5] H4 := by
      intro H4 ys x5 s4 h4 hst
      refine ⟨_, rfl, D, _, rfl, SqL.of h4.head, fun l hl2 => ?_⟩
      exact q _ l ys.reverse (s4.trans (same_new hl2 _)) (h4.tail.tail.new hl2) (hst.mono (Imm.new hl2))
    cases fs with
    | nil =>
      have hg : gs = [] := List.eq_nil_of_length_eq_zero hgl
      subst hg
      refine iteF ?_
      refine fin H3 zs _ s3 h3 ?_
      have ez : zs = [] := List.eq_nil_of_length_eq_zero hzl
      rw [ez]
      show StkAt K H3 (W.M.stack k) []
      unfold Mach.stack
      rw [List.getD_eq_getElem?_getD, e]
      rfl
    | cons f r =>
      cases gs with
      | nil => exact a2.elim
      | cons g gs =>
        obtain ⟨d, t, ht⟩ := settle1_none hs1 hs4
        rw [show (if true = true then !(hlV (g :: gs)).isEmpty else (hlV (g :: gs)).isEmpty) = true by rw [hlV_cons]; simp]
        refine iteT ?_
        have h5 : Holds H3 ((hl, .lst (hlV gs ++ [.ref g.x])) :: (frC K g f ++ frsC K gs r ++ Rest ++ R)) := by rw [← hlV_cons]; exact cell h3.tail.tail
        refine ⟨_, rfl, tyL h3.head, _, rfl, 1, rfl, hl, _, -1, _, rfl, rfl, SqL.of h5.head, atI_last _ _, g.x, g.dx, _, _, _, _, rfl, h5.tail.head, ?_⟩
        refine ⟨_, rfl, G.w, G.dx, _, _, _, _, _, _, _, _, _, rfl, h3.tail.tail.head, G.g.m, G.g.dx, _, rfl, h3.tail.tail.tail.tail.head, nmMachine_next_place, _, rfl, ?_⟩
        refine ⟨G.g, W.M, R, k, f, r, d, t, rfl, h3.tail.tail.tail.tail, hA.M.mono (Imm.same s3), e, ht, ?_⟩
        refine ⟨(by show 2 ≤ sizeLine; decide), fun tp htp => ?_⟩
        have h6 := h3.skip (o := .tup [.int (f.fn : Nat), .int (d.place : Nat)]) htp
        have i6 := Imm.new (o := .tup [.int (f.fn : Nat), .int (d.place : Nat)]) htp
        have hr := hs3
        rw [List.length_cons] at hr hzl
        refine ⟨D, zs, .ref tp, rfl, rfl, h6.head, small1000 (by omega), ?_⟩
        refine fin _ (zs ++ [.ref tp]) _ (same_at (s3.trans (same_new htp _)) ?_) h6.upd ?_
        · cases hDD : H D with
          | none => rfl
          | some o => have := s1 D o hDD; rw [hD] at this; cases this
        · rw [List.reverse_append]
          unfold Mach.stack
          rw [List.getD_eq_getElem?_getD, e, place_eq e ht]
          refine ⟨tp, zs.reverse, rfl, (h6.imm rfl).t (.inl (.inl upd_same)), ?_⟩
          have hz4 := hz3.mono (i6.trans (h6.imm (o' := .lst (zs ++ [.ref tp])) rfl))
          rw [show (f :: r).length - ((f :: r).length - 1) = 1 by rw [List.length_cons]; omega] at hz4
          exact hz4
end SD
set_option Elab.async false
set_option linter.all false
set_option maxRecDepth 100000
set_option maxHeartbeats 4000000
namespace SD
open PySem PySem.Spec PyProof.Rows L2
structure Tw (K : PySem.W.Frag) : Prop where
  ways : ∀ H, SqT K H (He.ga K "WAYS") waysL
/-! ### is_over, cells, said -/
def sp_Watched_is_over (K : PySem.W.Frag) (w : World) : Sp := fun vs H Q _ => ∃ (G : WG) (W : Wd) (R : List (Addr × HO)), vs = [.ref G.w] ∧ Holds H (wC K G W ++ R) ∧ WAt K H G W ∧ W.M.hands.length ≤ 3 ∧ ∀ H', Same H H' → Q (.bl W.M.isOver) H'
abbrev n_m_Watched_is_over : List Str := ["self"]
def t_m_Watched_is_over (K : PySem.W.Frag) (w : World)  : TS :=
 (tRet (tMeth (He.ga K "Machine") "is_over" (sp_Machine_is_over K w) [] E0 (xfWatched_machine K (tVar 0)) tNil))
theorem pu_m_Watched_is_over {K : PySem.W.Frag} {w : World} (vs : List V) (H : Hp) (Q : VK) (E : XK) (h : sp_Watched_is_over K w vs H Q E) : t_m_Watched_is_over K w { nx := fun _ H' => Q .non H', rt := Q } (start n_m_Watched_is_over vs) H := by
  obtain ⟨G, W, R, rfl, hH, hA, h3, q⟩ := h
  refine ⟨_, rfl, G.w, G.dx, _, _, _, _, _, _, _, _, _, rfl, hH.head, G.g.m, G.g.dx, _, rfl, hH.tail.tail.head, nmMachine_is_over, ?_⟩
  exact ⟨G.g, W.M, R, rfl, hH.tail.tail, hA.M, h3, fun H' s => q H' s⟩
def sp_Watched_cells (K : PySem.W.Frag) (w : World) : Sp := fun vs H Q _ => ∃ (G : WG) (W : Wd) (R : List (Addr × HO)), vs = [.ref G.w] ∧ Holds H (wC K G W ++ R) ∧ WAt K H G W ∧
  ∀ H' l, Same H H' → Holds H' ((l, .lst (W.M.held.map V.int)) :: (wC K G W ++ R)) → Q (.ref l) H'
abbrev n_m_Watched_cells : List Str := ["self"]
def t_m_Watched_cells (K : PySem.W.Frag) (w : World)  : TS :=
 (tRet (tCB (rListOf K) (tCons (xfMachine_held K (xfWatched_machine K (tVar 0))) tNil)))
theorem pu_m_Watched_cells {K : PySem.W.Frag} {w : World} (vs : List V) (H : Hp) (Q : VK) (E : XK) (h : sp_Watched_cells K w vs H Q E) : t_m_Watched_cells K w { nx := fun _ H' => Q .non H', rt := Q } (start n_m_Watched_cells vs) H := by
  obtain ⟨G, W, R, rfl, hH, hA, q⟩ := h
  refine ⟨_, rfl, G.w, G.dx, _, _, _, _, _, _, _, _, _, rfl, hH.head, G.g.m, G.g.dx, _, _, _, _, _, _, _, rfl, hH.tail.tail.head, _, _, rfl, .inl (SqL.of hH.tail.tail.tail.head), fun l hl => ?_⟩
  exact q _ l (same_new hl _) (hH.new hl)
def sp_Watched_said (K : PySem.W.Frag) (w : World) : Sp := fun vs H Q _ => ∃ (G : WG) (W : Wd) (R : List (Addr × HO)), vs = [.ref G.w] ∧ Holds H (wC K G W ++ R) ∧ WAt K H G W ∧
  ∀ H' l, Same H H' → Holds H' ((l, .lst G.g.tv) :: (wC K G W ++ R)) → TalkAt K H' W.M.talk G.g.tv → Q (.ref l) H'
abbrev n_m_Watched_said : List Str := ["self"]
def t_m_Watched_said (K : PySem.W.Frag) (w : World)  : TS :=
 (tRet (tCB (rListOf K) (tCons (xfMachine_talk K (xfWatched_machine K (tVar 0))) tNil)))
theorem pu_m_Watched_said {K : PySem.W.Frag} {w : World} (vs : List V) (H : Hp) (Q : VK) (E : XK) (h : sp_Watched_said K w vs H Q E) : t_m_Watched_said K w { nx := fun _ H' => Q .non H', rt := Q } (start n_m_Watched_said vs) H := by
  obtain ⟨G, W, R, rfl, hH, hA, q⟩ := h
  refine ⟨_, rfl, G.w, G.dx, _, _, _, _, _, _, _, _, _, rfl, hH.head, G.g.m, G.g.dx, _, _, _, _, _, _, _, rfl, hH.tail.tail.head, _, _, rfl, .inl (SqL.of hH.tail.tail.tail.tail.head), fun l hl => ?_⟩
  exact q _ l (same_new hl _) (hH.new hl) (hA.M.t.mono (Imm.new hl))
/-! ### need_step, step -/
def sp_Watched_need_step (K : PySem.W.Frag) (w : World) : Sp := fun vs H Q _ => ∃ (G : WG) (W : Wd) (R : List (Addr × HO)) (k many : Nat) (y : Way), vs = [.ref G.w, .int (k : Nat), .str y.str, .int (many : Nat)] ∧ Holds H (wC K G W ++ R) ∧ WAt K H G W ∧
  k < W.M.hands.length ∧ (W.M.hands.getD k []).isEmpty = false ∧ many ≤ 2000 ∧ ∀ H', Same H H' → Q .non H'
abbrev n_m_Watched_need_step : List Str := ["self", "hand", "way", "many"]
def t_m_Watched_need_step (K : PySem.W.Frag) (w : World)  : TS :=
 (tSeq (tDrop (tMeth (He.ga K "Watched") "need_hand" (sp_Watched_need_hand K w) [] E0 (tVar 0) (tCons (tVar 1) tNil)))
 (tSeq (tIfS (tTest (tOp (rIn K true) (tVar 2) (tC (.ref (He.ga K "WAYS"))))) tNever tNext)
 (tSeq (tDrop (tCall (sp_need_count K w) [] E0 (tCons (tVar 3) tNil)))
 (tIfS (tTest (tOp (rEqNil K false) (tOp (rIxL K) (xfMachine_hands K (xfWatched_machine K (tVar 0))) (tVar 1)) (tLst tNil))) tNever tNext))))
theorem way_ways (y : Way) : inV (.str y.str) waysL = true := by cases y <;> decide +kernel
theorem pu_m_Watched_need_step {K : PySem.W.Frag} {w : World} (TW : Tw K) (vs : List V) (H : Hp) (Q : VK) (E : XK) (h : sp_Watched_need_step K w vs H Q E) : t_m_Watched_need_step K w { nx := fun _ H' => Q .non H', rt := Q } (start n_m_Watched_need_step vs) H := by
  obtain ⟨G, W, R, k, many, y, rfl, hH, hA, hk, he, hm, q⟩ := h
  refine ⟨_, rfl, G.w, G.dx, _, rfl, hH.head, nmWatched_need_hand, _, rfl, ?_⟩
  refine ⟨G, W, R, k, rfl, hH, hA, hk, ?_⟩
  refine ⟨_, rfl, _, _, rfl, .inr (TW.ways H), rfl, rfl, _, rfl, ?_⟩
  show if (!inV (.str y.str) waysL) = true then _ else _
  rw [way_ways]
  refine iteF ?_
  refine ⟨_, rfl, _, rfl, by omega, by omega, ?_⟩
  obtain ⟨hl, gs, e2, F1, hhl, em⟩ := hands_get hA.M.s (List.getElem?_eq_getElem hk) hH.tail.tail.tail.tail.tail
  refine ⟨_, rfl, G.w, G.dx, _, _, _, _, _, _, _, _, _, rfl, hH.head, G.g.m, G.g.dx, _, _, _, _, _, _, _, rfl, hH.tail.tail.head, _, rfl, G.g.hs, _, _, _, rfl, rfl, hA.M.sf.l, atI_nat e2, Nat.zero_le _, fun p hp => ?_⟩
  refine ⟨hl, p, _, rfl, rfl, SqL.of (by rw [upd_ne (fun e => by rw [← e, hhl] at hp; cases hp)]; exact hhl), SqL.of upd_same, _, rfl, ?_⟩
  have egd : W.M.hands.getD k [] = W.M.hands[k] := by rw [List.getD_eq_getElem?_getD, List.getElem?_eq_getElem hk]; rfl
  rw [egd] at he
  rw [em, he]
  exact iteF (q _ (same_new hp _))
def sp_Watched_step (K : PySem.W.Frag) (w : World) : Sp := fun vs H Q _ => ∃ (G : WG) (W : Wd) (R : List (Addr × HO)) (k many : Nat) (y : Way), vs = [.ref G.w, .int (k : Nat), .str y.str, .int (many : Nat)] ∧ Holds H (wC K G W ++ R) ∧ WAt K H G W ∧ WOk W ∧
  k < W.M.hands.length ∧ (W.M.hands.getD k []).isEmpty = false ∧ many ≤ 2000 ∧ W.M.done + many < sizeLine ∧
  ∀ H' G' v, G'.w = G.w → Imm H H' → Holds H' (wC K G' (W.step k y many).2 ++ R) → WAt K H' G' (W.step k y many).2 → EvAt K H' (W.step k y many).1 v → Q v H'
abbrev n_m_Watched_step : List Str := ["self", "hand", "way", "many"]
def t_m_Watched_step (K : PySem.W.Frag) (w : World)  : TS :=
 (tSeq (tDrop (tMeth (He.ga K "Watched") "need_step" (sp_Watched_need_step K w) [] E0 (tVar 0) (tCons (tVar 1) (tCons (tVar 2) (tCons (tVar 3) tNil)))))
 (tSeq (tDrop (tMeth (He.ga K "Watched") "begin" (sp_Watched_begin K w) [] E0 (tVar 0) (tCons (tTup (tCons (tVar 1) (tCons (tVar 2) (tCons (tCB (rLenS' K) (tCons (tOp (rIxL K) (xfMachine_hands K (xfWatched_machine K (tVar 0))) (tVar 1)) tNil)) tNil)))) (tCons (tVar 3) tNil))))
 (tRet (tMeth (He.ga K "Watched") "finish" (sp_Watched_finish K w) [] E0 (tVar 0) tNil))))
theorem pu_m_Watched_step {K : PySem.W.Frag} {w : World} (vs : List V) (H : Hp) (Q : VK) (E : XK) (h : sp_Watched_step K w vs H Q E) : t_m_Watched_step K w { nx := fun _ H' => Q .non H', rt := Q } (start n_m_Watched_step vs) H := by
  obtain ⟨G, W, R, k, many, y, rfl, hH, hA, ok, hk, he, hm, hdn, q⟩ := h
  refine ⟨_, rfl, G.w, G.dx, _, rfl, hH.head, nmWatched_need_step, _, rfl, _, rfl, _, rfl, ?_⟩
  refine ⟨G, W, R, k, many, y, rfl, hH, hA, hk, he, hm, fun H1 s1 => ?_⟩
  have h1 := hH.same s1
  have A1 := hA.mono (Imm.same s1)
  obtain ⟨hl, gs, e2, F1, hhl, em⟩ := hands_get A1.M.s (List.getElem?_eq_getElem hk) h1.tail.tail.tail.tail.tail
  refine ⟨_, rfl, G.w, G.dx, _, rfl, h1.head, nmWatched_begin, ?_⟩
  refine ⟨_, rfl, _, rfl, _, rfl, G.w, G.dx, _, _, _, _, _, _, _, _, _, rfl, h1.head, G.g.m, G.g.dx, _, _, _, _, _, _, _, rfl, h1.tail.tail.head, _, rfl, G.g.hs, _, _, _, rfl, rfl, A1.M.sf.l, atI_nat e2, hl, _, rfl, .inl (SqL.of hhl), (by show 3 ≤ sizeLine; decide), fun t ht => ?_⟩
  have h2 := h1.skip (o := .tup [.int (k : Nat), .str y.str, .int ((hlV gs).length : Nat)]) ht
  have i2 := Imm.new (o := .tup [.int (k : Nat), .str y.str, .int ((hlV gs).length : Nat)]) ht
  have ft : SqT K (upd H1 t (.tup [.int (k : Nat), .str y.str, .int ((hlV gs).length : Nat)])) t [.int (k : Nat), .str y.str, .int ((hlV gs).length : Nat)] := .inl (.inl upd_same)
  generalize upd H1 t (.tup [.int (k : Nat), .str y.str, .int ((hlV gs).length : Nat)]) = H2 at h2 i2 ft ⊢
  have egd : W.M.hands.getD k [] = W.M.hands[k] := by rw [List.getD_eq_getElem?_getD, List.getElem?_eq_getElem hk]; rfl
  have hgl : (hlV gs).length = (W.M.hands.getD k []).length := by rw [hlV_len, F1.len, egd]
  rw [hgl] at ft
  refine ⟨_, rfl, ?_⟩
  refine ⟨G, W, R, some (k, y, (W.M.hands.getD k []).length), .ref t, many, rfl, h2, A1.mono i2, ⟨t, rfl, ft⟩, fun H3 i3 h3 A3 => ?_⟩
  refine ⟨_, rfl, G.w, G.dx, _, rfl, h3.head, nmWatched_finish, ?_⟩
  refine ⟨{ G with go := .ref t }, W.begin (some (k, y, (W.M.hands.getD k []).length)) many, R, rfl, h3, A3, ok.begin (fun g h => by cases h; exact hk), hdn, fun H4 G' v eg i4 h4 A4 ev => ?_⟩
  exact q H4 G' v eg ((Imm.same s1).trans (i2.trans (i3.trans i4))) h4 A4 ev
end SD
set_option Elab.async false
set_option linter.all false
set_option maxRecDepth 100000
set_option maxHeartbeats 4000000
namespace SD
open PySem PySem.Spec PyProof.Rows L2
/-! ### the laws' dice -/
def Sm31 (m : Int) : Prop := 0 ≤ m ∧ m < 2147483647
abbrev diC (a : Addr) (i m l : Int) : HO := .lst [.ref a, .int i, .int m, .int l]
theorem cmul_sm {m k : Int} (h : Sm31 m) : CMul m k := .inl ⟨by have := h.1; omega, by have := h.2; omega⟩
theorem sm31_mod (x : Int) : Sm31 (x % 2147483647) := ⟨by omega, by omega⟩
def sp_law_dice (K : PySem.W.Frag) (w : World) : Sp := fun vs H Q _ => ∃ (a : Addr) (xs : List Int), vs = [.ref a] ∧ SqL K H a (xs.map V.int) ∧
  ∀ d m, Sm31 m → H d = none → Q (.ref d) (upd H d (diC a 0 m 0))
abbrev n_f_law_dice : List Str := ["_law_script", "_law_mixed", "_law_cell"]
def t_f_law_dice (K : PySem.W.Frag) (w : World)  : TS :=
 (tSeq (tAsg (tC (.int 0)) (gName 1))
 (tSeq (tFor (iList K (tVar 0)) (gName 2) (tAsg (tOp (rI (fun _ j => 0 < j) fun i j => .int (i % j)) (tOp (rI0 fun i j => .int (i + j)) (tOp (rI0 fun i j => .int (i + j)) (tOp (rI CMul fun i j => .int (i * j)) (tVar 1) (tC (.int 48271))) (tOp (rI CMul fun i j => .int (i * j)) (tOp (rI (fun _ j => 0 < j) fun i j => .int (i % j)) (tVar 2) (tC (.int 2147483647))) (tC (.int 69621)))) (tC (.int 11))) (tC (.int 2147483647))) (gName 1)))
 (tRet (tLst (tCons (tVar 0) (tCons (tC (.int 0)) (tCons (tOp (rI CMul fun i j => .int (i * j)) (tVar 1) (tCB rInt1 (tCons (tOp (rI0 fun i j => .bl (decide (j < i))) (tCB (rLenS' K) (tCons (tVar 0) tNil)) (tC (.int 2))) tNil))) (tCons (tC (.int 0)) tNil))))))))
theorem pu_f_law_dice {K : PySem.W.Frag} {w : World} (vs : List V) (H : Hp) (Q : VK) (E : XK) (h : sp_law_dice K w vs H Q E) : t_f_law_dice K w { nx := fun _ H' => Q .non H', rt := Q } (start n_f_law_dice vs) H := by
  obtain ⟨a, xs, rfl, hs, q⟩ := h
  refine ⟨_, rfl, a, rfl, ⟨_, hs⟩, ?_⟩
  refine for_it (walk_list (xs := xs.map V.int)) (fun i σ H2 => ∃ m x2, σ = [some (.ref a), some (.int m), x2] ∧ H2 = H ∧ Sm31 m)
    ⟨0, _, rfl, rfl, ⟨by omega, by omega⟩⟩ (fun i σ H2 _ ⟨_, _, _, e, _⟩ => by rw [e]; exact hs) (fun i u σ H2 H3 hlt hP hY => ?_) fun σ H2 hP => ?_
  · obtain ⟨m, x2, rfl, rfl, hm⟩ := hP
    obtain ⟨rfl, hu⟩ := hY
    rw [List.getElem?_map] at hu
    cases ec : xs[i]? with
    | none => rw [ec] at hu; cases hu
    | some c =>
      rw [ec] at hu
      have hu : u = .int c := (Option.some.inj hu).symm
      subst hu
      refine ⟨_, rfl, _, _, rfl, rfl, cmul_sm hm, _, rfl, _, _, rfl, rfl, (by show (0 : Int) < 2147483647; decide), _, _, rfl, rfl, cmul_sm (sm31_mod c), _, _, rfl, rfl, _, _, rfl, rfl, _, _, rfl, rfl, (by show (0 : Int) < 2147483647; decide), ?_⟩
      exact ⟨_, _, rfl, rfl, sm31_mod _⟩
  · obtain ⟨m, x2, rfl, rfl, hm⟩ := hP
    refine ⟨_, rfl, _, rfl, _, rfl, _, _, rfl, .inl hs, _, _, rfl, rfl, .inr ⟨_, rfl, _, _, rfl, rfl, cmul_sm hm, (by show 4 ≤ sizeLine; decide), fun d hd => ?_⟩⟩
    refine q d _ ?_ hd
    split
    · show Sm31 (m * 1); rw [Int.mul_one]; exact hm
    · show Sm31 (m * 0); rw [Int.mul_zero]; exact ⟨by omega, by omega⟩
def sp_law_next (K : PySem.W.Frag) (w : World) : Sp := fun vs H Q _ => ∃ (d a : Addr) (xs : List Int) (i m l many : Int) (R : List (Addr × HO)), vs = [.ref d, .int many] ∧ 0 < many ∧ many < 1073741824 ∧ Holds H ((d, diC a i m l) :: R) ∧ SqF K H a (xs.map V.int) ∧ 0 ≤ i ∧ Sm31 m ∧
  ∀ H' r i' m' l', 0 ≤ r → r < many → Imm H H' → Holds H' ((d, diC a i' m' l') :: R) → 0 ≤ i' → Sm31 m' → Q (.int r) H'
abbrev n_f_law_next : List Str := ["_law_dice_here", "_law_many", "_law_found", "_law_cell"]
def t_f_law_next (K : PySem.W.Frag) (w : World)  : TS :=
 (tSeq (tIfS (tTest (tOp (rI0 fun i j => .bl (decide (j < i))) (tOp (rIxL K) (tVar 0) (tC (.int 3))) (tC (.int 0)))) (tSeq (tAsg (tOp (rI (fun _ j => 0 < j) fun i j => .int (i % j)) (tOp (rIxL K) (tVar 0) (tC (.int 3))) (tVar 1)) (gName 2))
 (tSeq (tAsg (tOp (rI CDiv fun i j => .int (i / j)) (tOp (rIxL K) (tVar 0) (tC (.int 3))) (tVar 1)) (gSub (tVar 0) (tC (.int 3)) rSetL))
 (tRet (tVar 2)))) tNext)
 (tSeq (tAsg (tOp (rI0 fun i j => .int (i + j)) (tOp (rIxL K) (tVar 0) (tC (.int 1))) (tC (.int 1))) (gSub (tVar 0) (tC (.int 1)) rSetL))
 (tSeq (tIfS (tTest (tOp (rI0 fun i j => .bl (decide (i ≤ j))) (tOp (rIxL K) (tVar 0) (tC (.int 1))) (tCB (rLenS' K) (tCons (tOp (rIxL K) (tVar 0) (tC (.int 0))) tNil)))) (tSeq (tAsg (tOp (rIxL K) (tOp (rIxL K) (tVar 0) (tC (.int 0))) (tOp (rI0 fun i j => .int (i - j)) (tOp (rIxL K) (tVar 0) (tC (.int 1))) (tC (.int 1)))) (gName 3))
 (tSeq (tAsg (tIf (tTest (tOp (rI0 fun i j => .bl (decide (j ≤ i))) (tVar 3) (tOp (rI CPow fun i j => .int (i ^ j.toNat)) (tC (.int 10)) (tC (.int 18))))) (tOp (rI CDiv fun i j => .int (i / j)) (tVar 3) (tVar 1)) (tC (.int 0))) (gSub (tVar 0) (tC (.int 3)) rSetL))
 (tRet (tOp (rI (fun _ j => 0 < j) fun i j => .int (i % j)) (tVar 3) (tVar 1))))) tNext)
 (tSeq (tAsg (tOp (rI (fun _ j => 0 < j) fun i j => .int (i % j)) (tOp (rI CMul fun i j => .int (i * j)) (tOp (rIxL K) (tVar 0) (tC (.int 2))) (tC (.int 48271))) (tC (.int 2147483647))) (gSub (tVar 0) (tC (.int 2)) rSetL))
 (tRet (tOp (rI (fun _ j => 0 < j) fun i j => .int (i % j)) (tOp (rI CDiv fun i j => .int (i / j)) (tOp (rIxL K) (tVar 0) (tC (.int 2))) (tC (.int 7))) (tVar 1)))))))
theorem pu_f_law_next {K : PySem.W.Frag} {w : World} (vs : List V) (H : Hp) (Q : VK) (E : XK) (h : sp_law_next K w vs H Q E) : t_f_law_next K w { nx := fun _ H' => Q .non H', rt := Q } (start n_f_law_next vs) H := by
  obtain ⟨d, a, xs, i, m, l, many, R, rfl, hm0, hm1, hH, ha, hi, hm, q⟩ := h
  have sd : ∀ {H1 : Hp} {i m l : Int}, Holds H1 ((d, diC a i m l) :: R) → SqL K H1 d [.ref a, .int i, .int m, .int l] := fun h => SqL.of h.head
  refine ⟨_, rfl, d, _, 3, _, rfl, rfl, sd hH, rfl, _, _, rfl, rfl, _, rfl, ?_⟩
  by_cases hl : 0 < l
  · refine iteDT hl ?_
    refine ⟨_, rfl, d, _, 3, _, rfl, rfl, sd hH, rfl, _, rfl, _, _, rfl, rfl, hm0, ?_⟩
    refine ⟨_, rfl, d, _, 3, _, rfl, rfl, sd hH, rfl, _, rfl, _, _, rfl, rfl, ⟨hm0, hm1⟩, _, rfl, d, _, 3, 3, rfl, rfl, hH.head, rfl, ?_⟩
    have h1 := hH.upd (o' := diC a i m (l / many))
    exact ⟨_, rfl, q _ _ i m (l / many) (Int.emod_nonneg _ (by omega)) (Int.emod_lt_of_pos _ hm0) (hH.imm rfl) h1 hi hm⟩
  · refine iteDF hl ?_
    refine ⟨_, rfl, d, _, 1, _, rfl, rfl, sd hH, rfl, _, _, rfl, rfl, _, rfl, d, _, 1, 1, rfl, rfl, hH.head, rfl, ?_⟩
    have h1 := hH.upd (o' := diC a (i + 1) m l)
    have i1 := hH.imm (o' := diC a (i + 1) m l) rfl
    have h1 : Holds (upd H d (.lst ([V.ref a, .int i, .int m, .int l].set 1 (.int (i + 1))))) ((d, diC a (i + 1) m l) :: R) := h1
    have i1 : Imm H (upd H d (.lst ([V.ref a, .int i, .int m, .int l].set 1 (.int (i + 1))))) := i1
    generalize upd H d (.lst ([V.ref a, .int i, .int m, .int l].set 1 (.int (i + 1)))) = H1 at h1 i1
    have ha1 := i1.f ha
    refine ⟨_, rfl, d, _, 1, _, rfl, rfl, sd h1, rfl, _, rfl, d, _, 0, _, rfl, rfl, sd h1, rfl, a, _, rfl, .inl ha1.l, _, _, rfl, rfl, _, rfl, ?_⟩
    by_cases hc : i + 1 ≤ xs.length
    · refine iteDT (by rw [List.length_map]; exact hc) ?_
      obtain ⟨c, ec⟩ : ∃ c, xs[i.toNat]? = some c := ⟨_, List.getElem?_eq_getElem (by omega)⟩
      have hat : atI (xs.map V.int) (i + 1 - 1) = some (.int c) := by
        have := atI_nat (xs := xs.map V.int) (j := i.toNat) (v := .int c) (by rw [List.getElem?_map, ec]; rfl)
        rwa [show ((i.toNat : Nat) : Int) = i + 1 - 1 by omega] at this
      refine ⟨_, rfl, d, _, 0, _, rfl, rfl, sd h1, rfl, _, rfl, d, _, 1, _, rfl, rfl, sd h1, rfl, _, _, rfl, rfl, a, _, _, _, rfl, rfl, ha1.l, hat, ?_⟩
      refine ⟨_, rfl, _, _, rfl, rfl, ⟨by decide, by decide, by decide⟩, _, _, rfl, rfl, _, rfl, ?_⟩
      have fin : ∀ y : Int, (fun y H2 => tAsg (fun _ H Q => Q y H) (gSub (tVar 0) (tC (.int 3)) rSetL) { nx := fun σ1 H1 => tRet (tOp (rI (fun _ j => 0 < j) fun i j => .int (i % j)) (tVar 3) (tVar 1)) { nx := (fun _ H' => Q .non H' : L2.St → Hp → Prop), rt := Q } σ1 H1, rt := Q } [some (.ref d), some (.int many), none, some (.int c)] H2) (.int y) H1 := by
        intro y
        refine ⟨_, rfl, d, _, 3, 3, rfl, rfl, h1.head, rfl, ?_⟩
        have h2 := h1.upd (o' := diC a (i + 1) m y)
        exact ⟨_, rfl, _, rfl, _, _, rfl, rfl, hm0, q _ _ (i + 1) m y (Int.emod_nonneg _ (by omega)) (Int.emod_lt_of_pos _ hm0) (i1.trans (h1.imm rfl)) h2 (by omega) hm⟩
      refine ite2 (fun _ => ?_) fun _ => ?_
      · exact ⟨_, rfl, _, rfl, _, _, rfl, rfl, ⟨hm0, hm1⟩, fin _⟩
      · exact fin 0
    · refine iteDF (by rw [List.length_map]; exact hc) ?_
      refine ⟨_, rfl, d, _, 2, _, rfl, rfl, sd h1, rfl, _, _, rfl, rfl, cmul_sm hm, _, _, rfl, rfl, (by show (0 : Int) < 2147483647; decide), _, rfl, d, _, 2, 2, rfl, rfl, h1.head, rfl, ?_⟩
      have h2 : Holds _ ((d, diC a (i + 1) (m * 48271 % 2147483647) l) :: R) := h1.upd (o' := diC a (i + 1) (m * 48271 % 2147483647) l)
      exact ⟨_, rfl, d, _, 2, _, rfl, rfl, sd h2, rfl, _, _, rfl, rfl, ⟨by decide, by decide⟩, _, rfl, _, _, rfl, rfl, hm0, q _ _ (i + 1) _ l (Int.emod_nonneg _ (by omega)) (Int.emod_lt_of_pos _ hm0) (i1.trans (h1.imm rfl)) h2 (by omega) (sm31_mod _)⟩
end SD
set_option Elab.async false
set_option linter.all false
set_option maxRecDepth 100000
set_option maxHeartbeats 4000000
namespace SD
open PySem PySem.Spec PyProof.Rows L2
/-! ### parts of the heap that are held, each by itself -/
structure As where
  p : List (Addr × HO) → Hp → Prop
  mono : ∀ {c H H'}, Imm H H' → p c H → p c H'
def SepL (H : Hp) : List As → List (Addr × HO) → Prop
  | [], c => c = []
  | A :: r, c => ∃ c1 c2, c = c1 ++ c2 ∧ A.p c1 H ∧ SepL H r c2
def Sep (H : Hp) (L : List As) : Prop := ∃ c, Holds H c ∧ SepL H L c
section
variable {K : PySem.W.Frag} {H H' : Hp} {L L' : List As} {A : As} {c R : List (Addr × HO)}
theorem SepL.mono (i : Imm H H') : ∀ {L : List As} {c : List (Addr × HO)}, SepL H L c → SepL H' L c
  | [], c, h => h
  | A :: r, c, ⟨c1, c2, e, h1, h2⟩ => ⟨c1, c2, e, A.mono i h1, SepL.mono i h2⟩
theorem SepL.perm (p : L.Perm L') : ∀ {c}, SepL H L c → ∃ c', c.Perm c' ∧ SepL H L' c' := by
  induction p with
  | nil => exact fun h => ⟨_, .refl _, h⟩
  | cons A p ih =>
    rintro c ⟨c1, c2, rfl, h1, h2⟩
    obtain ⟨c', q, h3⟩ := ih h2
    exact ⟨c1 ++ c', q.append_left _, c1, c', rfl, h1, h3⟩
  | swap A B l =>
    rintro c ⟨c1, c2, rfl, h1, c3, c4, rfl, h2, h3⟩
    refine ⟨c3 ++ (c1 ++ c4), ?_, c3, _, rfl, h2, c1, c4, rfl, h1, h3⟩
    rw [← List.append_assoc, ← List.append_assoc]
    exact List.perm_append_comm.append_right _
  | trans _ _ i1 i2 =>
    intro c h
    obtain ⟨c', q, h'⟩ := i1 h
    obtain ⟨c'', q', h''⟩ := i2 h'
    exact ⟨c'', q.trans q', h''⟩
theorem Sep.perm (h : Sep H L) (p : L.Perm L') : Sep H L' := by
  obtain ⟨c, h1, h2⟩ := h
  obtain ⟨c', q, h3⟩ := SepL.perm p h2
  exact ⟨c', h1.perm q, h3⟩
theorem Sep.pull (h : Sep H L) (i : Nat) (e : L[i]? = some A) : Sep H (A :: L.eraseIdx i) := by
  refine h.perm ?_
  obtain ⟨hi, e⟩ := List.getElem?_eq_some_iff.mp e
  rw [← e]
  exact (pull_perm hi).symm
theorem Sep.swap {B : As} (h : Sep H (A :: B :: L)) : Sep H (B :: A :: L) := h.perm (List.Perm.swap ..)
theorem Sep.open (h : Sep H (A :: L)) : ∃ c R, A.p c H ∧ Holds H (c ++ R) ∧ SepL H L R := by
  obtain ⟨c, h1, c1, c2, rfl, h2, h3⟩ := h
  exact ⟨c1, c2, h2, h1, h3⟩
theorem Sep.close (ha : A.p c H) (h : Holds H (c ++ R)) (hL : SepL H L R) : Sep H (A :: L) := ⟨_, h, c, R, rfl, ha, hL⟩
theorem Sep.tail (h : Sep H (A :: L)) : Sep H L := by
  obtain ⟨c, R, _, h2, h3⟩ := h.open
  exact ⟨R, h2.right, h3⟩
theorem SepL.take : ∀ {L : List As} {c : List (Addr × HO)} (n : Nat), SepL H L c → ∃ c1 c2, c = c1 ++ c2 ∧ SepL H (L.take n) c1
  | L, c, 0, h => ⟨[], c, rfl, rfl⟩
  | [], c, n + 1, h => ⟨[], c, rfl, rfl⟩
  | A :: r, c, n + 1, ⟨c1, c2, e, h1, h2⟩ => by
    obtain ⟨d1, d2, e2, h3⟩ := SepL.take n h2
    exact ⟨c1 ++ d1, d2, by rw [e, e2, List.append_assoc], c1, d1, rfl, h1, h3⟩
theorem Sep.take (h : Sep H L) (n : Nat) : Sep H (L.take n) := by
  obtain ⟨c, h1, h2⟩ := h
  obtain ⟨c1, c2, rfl, h3⟩ := h2.take n
  exact ⟨c1, h1.left, h3⟩
theorem Sep.nil : Sep H [] := ⟨[], Holds.nil, rfl⟩
theorem Sep.same (h : Sep H L) (s : Same H H') : Sep H' L := by
  obtain ⟨c, h1, h2⟩ := h
  exact ⟨c, h1.same s, h2.mono (Imm.same s)⟩
theorem Sep.skip (h : Sep H L) {p : Addr} {o : HO} (n : H p = none) : Sep (upd H p o) L := h.same (same_new n o)
/-- one cell -/
def cellA (a : Addr) (o : HO) : As := ⟨fun c _ => c = [(a, o)], fun _ h => h⟩
theorem Sep.cell {a : Addr} {o : HO} (h : Sep H (cellA a o :: L)) : H a = some o := by
  obtain ⟨c, R, rfl, h2, _⟩ := h.open
  exact h2.head
theorem Sep.new (h : Sep H L) {p : Addr} {o : HO} (n : H p = none) : Sep (upd H p o) (cellA p o :: L) := by
  obtain ⟨c, h1, h2⟩ := h
  exact ⟨(p, o) :: c, h1.new n, [(p, o)], c, rfl, rfl, h2.mono (Imm.new n)⟩
theorem Sep.set {a : Addr} {o o' : HO} (h : Sep H (cellA a o :: L)) (m : isMut o = true) : Sep (upd H a o') (cellA a o' :: L) := by
  obtain ⟨c, R, rfl, h2, h3⟩ := h.open
  exact ⟨_, Holds.upd h2, [(a, o')], R, rfl, rfl, h3.mono (Imm.upd h2.head m)⟩
theorem Sep.imm {a : Addr} {o o' : HO} (h : Sep H (cellA a o :: L)) (m : isMut o = true) : Imm H (upd H a o') := Imm.upd h.cell m
/-- tuples, lists -/
theorem tup_use {xs : List V} {Q : VK} (h : Sep H L) (n : xs.length ≤ 1000) (q : ∀ p H', Imm H H' → Sep H' L → SqT K H' p xs → Q (.ref p) H') : xs.length ≤ sizeLine ∧ ∀ p, H p = none → Q (.ref p) (upd H p (.tup xs)) :=
  ⟨Nat.le_trans n (by decide), fun p hp => q p _ (Imm.new hp) (h.skip hp) (.inl (.inl upd_same))⟩
theorem lst_use {xs : List V} {Q : VK} (h : Sep H L) (n : xs.length ≤ 1000) (q : ∀ p H', Imm H H' → Sep H' (cellA p (.lst xs) :: L) → Q (.ref p) H') : xs.length ≤ sizeLine ∧ ∀ p, H p = none → Q (.ref p) (upd H p (.lst xs)) :=
  ⟨Nat.le_trans n (by decide), fun p hp => q p _ (Imm.new hp) (h.new hp)⟩
end
/-! ### the dice -/
def diceA (K : PySem.W.Frag) (a d : Addr) (ns : List Int) : As :=
  ⟨fun c H => ∃ i m l, c = [(d, diC a i m l)] ∧ SqF K H a (ns.map V.int) ∧ 0 ≤ i ∧ Sm31 m, fun im ⟨i, m, l, e, h, h1, h2⟩ => ⟨i, m, l, e, im.f h, h1, h2⟩⟩
section
variable {K : PySem.W.Frag} {w : World} {H : Hp} {L : List As} {Q : VK} {E : XK} {a d x : Addr} {ns : List Int}
theorem use_dice (h : Sep H L) (hs : SqF K H a (ns.map V.int)) (q : ∀ d H', Imm H H' → Sep H' (diceA K a d ns :: L) → Q (.ref d) H') : sp_law_dice K w [.ref a] H Q E := by
  refine ⟨a, ns, rfl, hs.l, fun d m hm hd => ?_⟩
  obtain ⟨c, R, e, h2, h3⟩ := (h.new (o := diC a 0 m 0) hd).open
  cases e
  exact q d _ (Imm.new hd) (Sep.close ⟨0, m, 0, rfl, (Imm.new hd).f hs, Int.le_refl _, hm⟩ h2 h3)
theorem use_next {many : Int} (h : Sep H (diceA K a d ns :: L)) (h0 : 0 < many) (h1 : many < 1073741824) (q : ∀ (r : Nat) H', (r : Int) < many → Imm H H' → Sep H' (diceA K a d ns :: L) → Q (.int (r : Nat)) H') :
    sp_law_next K w [.ref d, .int many] H Q E := by
  obtain ⟨c, R, ⟨i, m, l, rfl, hs, hi, hm⟩, h2, h3⟩ := h.open
  refine ⟨d, a, ns, i, m, l, many, R, rfl, h0, h1, h2, hs, hi, hm, fun H' r i' m' l' r0 r1 im h4 hi' hm' => ?_⟩
  obtain ⟨r, rfl⟩ := Int.eq_ofNat_of_zero_le r0
  exact q r H' r1 im (Sep.close ⟨i', m', l', rfl, im.f hs, hi', hm'⟩ h4 (h3.mono im))
-- W{
/-! ### a watched one -/
def watA (K : PySem.W.Frag) (x : Addr) (W : Wd) : As := ⟨fun c H => ∃ G : WG, G.w = x ∧ c = wC K G W ∧ WAt K H G W, fun im ⟨G, e, ec, h⟩ => ⟨G, e, ec, h.mono im⟩⟩
variable {W : Wd}
theorem Sep.wat (h : Sep H (watA K x W :: L)) : ∃ dx v0 v1 v2 v3 v4 v5 v6 v7 v8, H x = some (.ins (He.ga K "Watched") dx (flWatched v0 v1 v2 v3 v4 v5 v6 v7 v8)) := by
  obtain ⟨c, R, ⟨G, rfl, rfl, hA⟩, h2, h3⟩ := h.open
  exact ⟨_, _, _, _, _, _, _, _, _, _, h2.head⟩
theorem meth_w {m : Str} {P : Prop} (h : Sep H (watA K x W :: L)) (nm : ∀ {v0 v1 v2 v3 v4 v5 v6 v7 v8 : V}, (flWatched v0 v1 v2 v3 v4 v5 v6 v7 v8).lookup m = none) (p : P) :
    ∃ a dx fs, V.ref x = .ref a ∧ H a = some (.ins (He.ga K "Watched") dx fs) ∧ fs.lookup m = none ∧ P := by
  obtain ⟨dx, v0, v1, v2, v3, v4, v5, v6, v7, v8, e⟩ := h.wat
  exact ⟨x, dx, _, rfl, e, nm, p⟩
theorem use_winit {p : Prog} {vp : V} (h : Sep H L) (hp : ProgAt K H p vp) (W : p.Wf) (q : ∀ x H', Imm H H' → Sep H' (watA K x (Wd.init p) :: L) → Q (.ref x) H') :
    ∀ x dx, H x = none → H dx = none → dx ≠ x → sp_Watched_init K w [.ref x, vp] (upd (upd H dx (.own x)) x (.ins (He.ga K "Watched") dx [])) (fun v H2 => v = .non ∧ Q (.ref x) H2) E := by
  intro x dx hx hdx hne
  have hx2 : upd H dx (.own x) x = none := by rw [upd_ne hne.symm]; exact hx
  obtain ⟨c, h1, h2⟩ := h
  have h3 := (h1.skip (o := .own x) hdx).new (o := .ins (He.ga K "Watched") dx []) hx2
  have j := (Imm.new (o := .own x) hdx).trans (Imm.new (o := .ins (He.ga K "Watched") dx []) hx2)
  refine ⟨x, dx, vp, p, c, rfl, h3, hp.mono j, W, fun H' G e j2 h4 A => ⟨rfl, ?_⟩⟩
  exact q x H' (j.trans j2) (Sep.close ⟨G, e, rfl, A⟩ h4 (h2.mono (j.trans j2)))
theorem use_stop {s : Stop} {vw : V} (h : Sep H (watA K x W :: L)) (ok : WOk W) (hw : WishAt K H s.wish vw) (h1 : s.place < W.p.pfuns.length) (h2 : ∀ k, s.hand = some k → k < W.M.hands.length) (h3 : ∀ y, s.wish = some y → WishOk W.p s.place y)
    (h4 : W.stops.length < 20) (q : ∀ H', Imm H H' → Sep H' (watA K x (W.stopAt s) :: L) → Q (.int (W.made : Nat)) H') : sp_Watched_stop K w [.ref x, .int (s.place : Nat), handV s.hand, vw] H Q E := by
  obtain ⟨c, R, ⟨G, rfl, rfl, hA⟩, g2, g3⟩ := h.open
  exact ⟨G, W, R, s, vw, rfl, g2, hA, ok, hw, h1, h2, h3, h4, fun H' G' e im g4 A => q H' im (Sep.close ⟨G', e, rfl, A⟩ g4 (g3.mono im))⟩
theorem use_go {many : Nat} (h : Sep H (watA K x W :: L)) (ok : WOk W) (hm : many ≤ 2000) (ho : W.M.isOver = false) (hd : W.M.done + many < sizeLine)
    (q : ∀ v H', Imm H H' → Sep H' (watA K x (W.go many).2 :: L) → EvAt K H' (W.go many).1 v → Q v H') : sp_Watched_go K w [.ref x, .int (many : Nat)] H Q E := by
  obtain ⟨c, R, ⟨G, rfl, rfl, hA⟩, g2, g3⟩ := h.open
  exact ⟨G, W, R, many, rfl, g2, hA, ok, hm, ho, hd, fun H' G' v e im g4 A ev => q v H' im (Sep.close ⟨G', e, rfl, A⟩ g4 (g3.mono im)) ev⟩
theorem use_step {many k : Nat} {y : Way} (h : Sep H (watA K x W :: L)) (ok : WOk W) (hk : k < W.M.hands.length) (he : (W.M.hands.getD k []).isEmpty = false) (hm : many ≤ 2000) (hd : W.M.done + many < sizeLine)
    (q : ∀ v H', Imm H H' → Sep H' (watA K x (W.step k y many).2 :: L) → EvAt K H' (W.step k y many).1 v → Q v H') : sp_Watched_step K w [.ref x, .int (k : Nat), .str y.str, .int (many : Nat)] H Q E := by
  obtain ⟨c, R, ⟨G, rfl, rfl, hA⟩, g2, g3⟩ := h.open
  exact ⟨G, W, R, k, many, y, rfl, g2, hA, ok, hk, he, hm, hd, fun H' G' v e im g4 A ev => q v H' im (Sep.close ⟨G', e, rfl, A⟩ g4 (g3.mono im)) ev⟩
theorem use_stack {k : Nat} (h : Sep H (watA K x W :: L)) (ok : WOk W) (hk : k < W.M.hands.length) (q : ∀ l xs H', Imm H H' → Sep H' (cellA l (.lst xs) :: watA K x W :: L) → StkAt K H' (W.M.stack k) xs → Q (.ref l) H') :
    sp_Watched_stack K w [.ref x, .int (k : Nat)] H Q E := by
  obtain ⟨c, R, ⟨G, rfl, rfl, hA⟩, g2, g3⟩ := h.open
  exact ⟨G, W, R, k, rfl, g2, hA, ok, hk, fun H' l xs s g4 st => q l xs H' (Imm.same s) (Sep.close rfl g4 ⟨_, _, rfl, ⟨G, rfl, rfl, hA.mono (Imm.same s)⟩, g3.mono (Imm.same s)⟩) st⟩
theorem use_look {k deep : Nat} {fs : List Fr} {f : Fr} (h : Sep H (watA K x W :: L)) (e1 : W.M.hands[k]? = some fs) (e2 : fs[deep]? = some f) (q : ∀ l H', Imm H H' → Sep H' (cellA l (.lst (f.names.map V.int)) :: watA K x W :: L) → Q (.ref l) H') :
    sp_Watched_look K w [.ref x, .int (k : Nat), .int (deep : Nat)] H Q E := by
  obtain ⟨c, R, ⟨G, rfl, rfl, hA⟩, g2, g3⟩ := h.open
  exact ⟨G, W, R, k, deep, fs, f, rfl, g2, hA, e1, e2, fun H' l s g4 => q l H' (Imm.same s) (Sep.close rfl g4 ⟨_, _, rfl, ⟨G, rfl, rfl, hA.mono (Imm.same s)⟩, g3.mono (Imm.same s)⟩)⟩
theorem use_is_over (h : Sep H (watA K x W :: L)) (h3 : W.M.hands.length ≤ 3) (q : ∀ H', Imm H H' → Sep H' (watA K x W :: L) → Q (.bl W.M.isOver) H') : sp_Watched_is_over K w [.ref x] H Q E := by
  obtain ⟨c, R, ⟨G, rfl, rfl, hA⟩, g2, g3⟩ := h.open
  exact ⟨G, W, R, rfl, g2, hA, h3, fun H' s => q H' (Imm.same s) (Sep.close ⟨G, rfl, rfl, hA.mono (Imm.same s)⟩ (g2.same s) (g3.mono (Imm.same s)))⟩
theorem use_cells (h : Sep H (watA K x W :: L)) (q : ∀ l H', Imm H H' → Sep H' (cellA l (.lst (W.M.held.map V.int)) :: watA K x W :: L) → Q (.ref l) H') : sp_Watched_cells K w [.ref x] H Q E := by
  obtain ⟨c, R, ⟨G, rfl, rfl, hA⟩, g2, g3⟩ := h.open
  exact ⟨G, W, R, rfl, g2, hA, fun H' l s g4 => q l H' (Imm.same s) (Sep.close rfl g4 ⟨_, _, rfl, ⟨G, rfl, rfl, hA.mono (Imm.same s)⟩, g3.mono (Imm.same s)⟩)⟩
theorem use_said (h : Sep H (watA K x W :: L)) (q : ∀ l tv H', Imm H H' → Sep H' (cellA l (.lst tv) :: watA K x W :: L) → TalkAt K H' W.M.talk tv → Q (.ref l) H') : sp_Watched_said K w [.ref x] H Q E := by
  obtain ⟨c, R, ⟨G, rfl, rfl, hA⟩, g2, g3⟩ := h.open
  exact ⟨G, W, R, rfl, g2, hA, fun H' l s g4 t => q l _ H' (Imm.same s) (Sep.close rfl g4 ⟨_, _, rfl, ⟨G, rfl, rfl, hA.mono (Imm.same s)⟩, g3.mono (Imm.same s)⟩) t⟩
theorem use_plain {p : Prog} {vp : V} {many : Nat} (h : Sep H L) (hp : ProgAt K H p vp) (Wf : p.Wf) (hm : many ≤ 2000)
    (q : ∀ r ta he tv H', Imm H H' → SqT K H' r [.ref ta, .ref he, .bl (runN many p.mach).isOver, .int ((runN many p.mach).done : Nat)] → Sep H' (cellA ta (.lst tv) :: cellA he (.lst ((runN many p.mach).held.map V.int)) :: L) → TalkAt K H' (runN many p.mach).talk tv → Q (.ref r) H') :
    sp_plain K w [vp, .int (many : Nat)] H Q E := by
  obtain ⟨c, h1, h2⟩ := h
  exact ⟨p, vp, many, c, rfl, hp, Wf, hm, h1, fun H' r ta he tv im s g t => q r ta he tv H' im s ⟨_, g, [_], _, rfl, rfl, [_], c, rfl, rfl, h2.mono im⟩ t⟩
-- W}
end
/-! ### tellings as data -/
def intsD (xs : List Int) : List PyData := xs.map PyData.int
theorem ints_dp {K : PySem.W.Frag} {H : Hp} : ∀ xs : List Int, DpAll K H (xs.map V.int) (intsD xs)
  | [] => .nil
  | x :: r => .cons (.int x) (ints_dp r)
theorem ints_lay : ∀ xs : List Int, PyData.canLayAll0 (intsD xs) = true
  | [] => rfl
  | x :: r => by show (true && PyData.canLayAll0 (intsD r)) = true; rw [ints_lay r]; rfl
theorem eqv_refl' {d : PyData} (h : SeqAt.shaped d = true) : PyData.eqv d d = true := SeqAt.eqv_refl d (Bool.and_eq_true_iff.mp h).1
theorem ne_same {K : PySem.W.Frag} {H : Hp} {x y : V} {d : PyData} {Q : VK} (hx : Dp K H x d) (hy : Dp K H y d) (hs : SeqAt.shaped d = true) (q : Q (.bl false) H) : rNeD K x y H Q :=
  ⟨d, d, hx, hy, hs, hs, by rw [eqv_refl' hs]; exact q⟩
theorem eq_same {K : PySem.W.Frag} {H : Hp} {x y : V} {d : PyData} {Q : VK} (hx : Dp K H x d) (hy : Dp K H y d) (hs : SeqAt.shaped d = true) (q : Q (.bl true) H) : rEqD K x y H Q :=
  ⟨d, d, hx, hy, hs, hs, by rw [eqv_refl' hs]; exact q⟩
theorem only_sqF {K : PySem.W.Frag} {H : Hp} {a : Addr} {xs : List V} (o : Only H) (h : SqL K H a xs) : SqF K H a xs := by
  rcases h with (h | h) | h
  · rcases o a with q | ⟨_, _, q⟩
    · rw [h] at q; cases q
    · rw [h] at q; cases q
  · exact .inl h
  · exact .inr h
-- W{
def talkD (t : List (Nat × Int)) : List PyData := t.map fun x => .tuple [.int (x.1 : Nat), .int x.2]
theorem talk_dp {K : PySem.W.Frag} {H : Hp} : ∀ {t : List (Nat × Int)} {v : List V}, TalkAt K H t v → DpAll K H v (talkD t)
  | [], v, h => by rw [show v = [] from h]; exact .nil
  | x :: r, v, ⟨a, s, e, h, h1⟩ => by rw [e]; exact .cons (.tup h (.cons (.int _) (.cons (.int _) .nil))) (talk_dp h1)
def evD : Ev → PyData
  | .over => .tuple [.str "over"]
  | .ended h => .tuple [.str "ended", .int (h : Nat)]
  | .stop h p n => .tuple [.str "stop", .int (h : Nat), .int (p : Nat), .int (n : Nat)]
  | .step h p => .tuple [.str "step", .int (h : Nat), .int (p : Nat)]
  | .paused h p => .tuple [.str "paused", .int (h : Nat), .int (p : Nat)]
theorem ev_dp {K : PySem.W.Frag} {H : Hp} {e : Ev} {v : V} (h : EvAt K H e v) : Dp K H v (evD e) := by
  cases e with
  | over => obtain ⟨a, rfl, h⟩ := h; exact .tup h (.cons (.str _) .nil)
  | ended k => obtain ⟨a, rfl, h⟩ := h; exact .tup h (.cons (.str _) (.cons (.int _) .nil))
  | stop k p n => obtain ⟨a, rfl, h⟩ := h; exact .tup h (.cons (.str _) (.cons (.int _) (.cons (.int _) (.cons (.int _) .nil))))
  | step k p => obtain ⟨a, rfl, h⟩ := h; exact .tup h (.cons (.str _) (.cons (.int _) (.cons (.int _) .nil)))
  | paused k p => obtain ⟨a, rfl, h⟩ := h; exact .tup h (.cons (.str _) (.cons (.int _) (.cons (.int _) .nil)))
theorem ev_shaped (e : Ev) : SeqAt.shaped (evD e) = true := by cases e <;> kernel_rfl
-- W}

theorem lay_all : ∀ {ds : List PyData}, (∀ d ∈ ds, d.canLay0 = true) → PyData.canLayAll0 ds = true
  | [], _ => rfl
  | x :: r, h => by
    show (x.canLay0 && PyData.canLayAll0 r) = true
    rw [h x (List.mem_cons_self ..), lay_all (ds := r) fun d hd => h d (List.mem_cons_of_mem _ hd)]; rfl
theorem depth_all {n : Nat} : ∀ {ds : List PyData}, (∀ d ∈ ds, d.depth ≤ n) → PyData.depthAll ds ≤ n
  | [], _ => Nat.zero_le _
  | x :: r, h => by
    show max x.depth (PyData.depthAll r) ≤ n
    exact Nat.max_le.mpr ⟨h x (List.mem_cons_self ..), depth_all (ds := r) fun d hd => h d (List.mem_cons_of_mem _ hd)⟩
/-- laid, and no deeper than n -/
def Flat (n : Nat) (d : PyData) : Prop := d.canLay0 = true ∧ d.depth ≤ n
theorem Flat.list {n : Nat} {ds : List PyData} (h : ∀ d ∈ ds, Flat n d) : Flat (n + 1) (.list ds) := ⟨lay_all fun d hd => (h d hd).1, Nat.succ_le_succ (depth_all fun d hd => (h d hd).2)⟩
theorem Flat.tuple {n : Nat} {ds : List PyData} (h : ∀ d ∈ ds, Flat n d) : Flat (n + 1) (.tuple ds) := ⟨lay_all fun d hd => (h d hd).1, Nat.succ_le_succ (depth_all fun d hd => (h d hd).2)⟩
theorem Flat.mono {n m : Nat} {d : PyData} (h : Flat n d) (e : n ≤ m) : Flat m d := ⟨h.1, Nat.le_trans h.2 e⟩
theorem Flat.shaped {n : Nat} {d : PyData} (h : Flat n d) (e : n ≤ 64 := by decide) : SeqAt.shaped d = true := Bool.and_eq_true_iff.mpr ⟨h.1, decide_eq_true (Nat.le_trans h.2 e)⟩
theorem Flat.int (i : Int) : Flat 0 (.int i) := ⟨rfl, Nat.le_refl _⟩
theorem Flat.non : Flat 0 .none := ⟨rfl, Nat.le_refl _⟩
theorem Flat.bool (b : Bool) : Flat 0 (.bool b) := ⟨rfl, Nat.le_refl _⟩
theorem flat_ints (xs : List Int) : Flat 1 (.list (intsD xs)) := .list fun d hd => by
  obtain ⟨i, _, rfl⟩ := List.mem_map.mp hd
  exact .int i
-- W{
theorem flat_talk (t : List (Nat × Int)) : Flat 2 (.list (talkD t)) := .list fun d hd => by
  obtain ⟨x, _, rfl⟩ := List.mem_map.mp hd
  refine .tuple fun d hd => ?_
  rcases List.mem_cons.mp hd with rfl | hd
  · exact .int _
  · rw [List.mem_singleton.mp hd]; exact .int _
-- W}
-- W{
def stkD (t : List (Nat × Option Nat)) : List PyData := t.map fun x => .tuple [.int (x.1 : Nat), match x.2 with | none => .none | some p => .int (p : Nat)]
theorem stk_dp {K : PySem.W.Frag} {H : Hp} : ∀ {t : List (Nat × Option Nat)} {v : List V}, StkAt K H t v → DpAll K H v (stkD t)
  | [], v, h => by rw [show v = [] from h]; exact .nil
  | x :: r, v, ⟨a, s, e, h, h1⟩ => by
    rw [e]
    refine .cons (.tup h (.cons (.int _) (.cons ?_ .nil))) (stk_dp h1)
    cases x.2 with
    | none => exact .non
    | some p => exact .int _
theorem flat_stk (t : List (Nat × Option Nat)) : Flat 2 (.list (stkD t)) := .list fun d hd => by
  obtain ⟨x, _, rfl⟩ := List.mem_map.mp hd
  refine .tuple fun d hd => ?_
  rcases List.mem_cons.mp hd with rfl | hd
  · exact .int _
  · rw [List.mem_singleton.mp hd]
    cases x.2 with
    | none => exact .non
    | some p => exact .int _
-- W}
end SD
set_option Elab.async false
set_option linter.all false
set_option maxRecDepth 100000
set_option maxHeartbeats 4000000
namespace SD
open PySem PySem.Spec PyProof.Rows L2
theorem small {m : Nat} (h : m ≤ 1000) : m ≤ sizeLine := Nat.le_trans h (by decide)
/-! ### the readings, step by step: each rule takes one word off -/
section
variable {K : PySem.W.Frag} {w : World} {H : Hp} {σ σ' : L2.St} {Q : VK} {QB : Bool → Hp → Prop} {D : Ends} {QL : List V → Hp → Prop}
theorem w_seq {t u : TS} (h : t { D with nx := u D } σ H) : tSeq t u D σ H := h
theorem w_next (h : D.nx σ H) : tNext D σ H := h
theorem w_break (h : D.bk σ H) : tBreak D σ H := h
theorem w_cont (h : D.ct σ H) : tCont D σ H := h
theorem w_asg {te : TE} {g : TG} (h : te σ H fun x H1 => g x σ H1 D.nx) : tAsg te g D σ H := h
theorem w_drop {te : TE} (h : te σ H fun _ H1 => D.nx σ H1) : tDrop te D σ H := h
theorem w_ret {te : TE} (h : te σ H D.rt) : tRet te D σ H := h
theorem w_retN (h : D.rt .non H) : tRetN D σ H := h
theorem w_ifs {c : TT} {t u : TS} (h : c σ H fun b H1 => if b = true then t D σ H1 else u D σ H1) : tIfS c t u D σ H := h
def KPar (i j : Nat) (D : Ends) (σ : L2.St) (vs : List V) (H1 : Hp) : Prop := ∃ v w, vs = [v, w] ∧ D.nx ((σ.set i (some v)).set j (some w)) H1
theorem w_par {i j : Nat} {ta : TA} (h : ta σ H (KPar i j D σ)) : tPar i j ta D σ H := h
theorem w_par2 {i j : Nat} {x y : V} (e : (σ.set i (some x)).set j (some y) = σ') (h : D.nx σ' H) : KPar i j D σ [x, y] H := ⟨x, y, rfl, by rw [e]; exact h⟩
theorem w_nT {A B : Prop} (h : B) : if (!true) = true then A else B := h
theorem w_nF {A B : Prop} (h : A) : if (!false) = true then A else B := h
-- values
theorem w_var {i : Nat} {v : V} (e : σ[i]? = some (some v)) (h : Q v H) : tVar i σ H Q := ⟨v, e, h⟩
theorem w_c {v : V} (h : Q v H) : tC v σ H Q := h
theorem w_nil (h : QL [] H) : tNil σ H QL := h
theorem w_cons {ta : TE} {tr : TA} (h : ta σ H fun x H1 => tr σ H1 fun xs H2 => QL (x :: xs) H2) : tCons ta tr σ H QL := h
theorem w_op {r : R2} {ta tb : TE} (h : ta σ H fun x H1 => tb σ H1 fun y H2 => r x y H2 Q) : tOp r ta tb σ H Q := h
theorem w_un {r : V → Hp → VK → Prop} {ta : TE} (h : ta σ H fun x H1 => r x H1 Q) : tUn r ta σ H Q := h
theorem w_rI0 {g : Int → Int → V} {i j : Int} (h : Q (g i j) H) : rI0 g (.int i) (.int j) H Q := ⟨i, j, rfl, rfl, h⟩
theorem w_rI {C : Int → Int → Prop} {g : Int → Int → V} {i j : Int} (c : C i j) (h : Q (g i j) H) : rI C g (.int i) (.int j) H Q := ⟨i, j, rfl, rfl, c, h⟩
theorem w_mod {g : Int → Int → V} {i j : Int} (c : 0 < j) (h : Q (g i j) H) : rI (fun _ j => 0 < j) g (.int i) (.int j) H Q := ⟨i, j, rfl, rfl, c, h⟩
theorem w_mul {g : Int → Int → V} {i j : Int} (c : -(2 ^ 64) < i ∧ i < 2 ^ 64 ∨ -(2 ^ 64) < j ∧ j < 2 ^ 64) (h : Q (g i j) H) : rI CMul g (.int i) (.int j) H Q := ⟨i, j, rfl, rfl, c, h⟩
theorem w_rU {g : Int → V} {i : Int} (h : Q (g i) H) : rU g (.int i) H Q := ⟨i, rfl, h⟩
-- tests
def KBl (QB : Bool → Hp → Prop) (x : V) (H' : Hp) : Prop := ∃ k, x = .bl k ∧ QB k H'
theorem w_test {t : TE} (h : t σ H (KBl QB)) : tTest t σ H QB := h
theorem w_b {t : TE} (h : t σ H (KBl QB)) : tB t σ H QB := h
theorem w_bl {b : Bool} (h : QB b H) : KBl QB (.bl b) H := ⟨b, rfl, h⟩
theorem w_and {t u : TT} (h : t σ H fun c H1 => if c = true then u σ H1 QB else QB false H1) : tAnd t u σ H QB := h
theorem w_or {t u : TT} (h : t σ H fun c H1 => if c = true then QB true H1 else u σ H1 QB) : tOr t u σ H QB := h
theorem w_not {t : TT} (h : t σ H fun c H1 => QB (!c) H1) : tNot t σ H QB := h
theorem w_andV {ta tb : TE} (h : ta σ H (KBl fun c H1 => if c = true then tb σ H1 Q else Q (.bl false) H1)) : tAndV ta tb σ H Q := h
theorem w_orV {ta tb : TE} (h : ta σ H (KBl fun c H1 => if c = true then Q (.bl true) H1 else tb σ H1 Q)) : tOrV ta tb σ H Q := h
theorem w_notV {ta : TE} (h : ta σ H (KBl fun c H1 => Q (.bl (!c)) H1)) : tNotV ta σ H Q := h
theorem w_if {c : TT} {ta tb : TE} (h : c σ H fun b H1 => if b = true then ta σ H1 Q else tb σ H1 Q) : tIf c ta tb σ H Q := h
theorem w_chain {r r' : R2} {ta tb tc : TE} (h : ta σ H fun x H1 => tb σ H1 fun y H2 => r x y H2 (KBl fun k H3 => if k = true then tc σ H3 fun w' H4 => r' y w' H4 Q else Q (.bl false) H3)) : tChain r r' ta tb tc σ H Q := h
theorem w_eqI {i j : Int} (h : Q (.bl (decide (i = j))) H) : rEq (.int i) (.int j) H Q := ⟨rfl, by
  have e : (V.int i = V.int j) = (i = j) := propext ⟨fun h => V.int.inj h, fun h => by rw [h]⟩
  simp only [e]; exact h⟩
theorem w_neI {i j : Int} (h : Q (.bl (!decide (i = j))) H) : rNe (.int i) (.int j) H Q := ⟨rfl, by
  have e : (V.int i = V.int j) = (i = j) := propext ⟨fun h => V.int.inj h, fun h => by rw [h]⟩
  simp only [e]; exact h⟩
theorem w_eqS {i j : Str} (h : Q (.bl (decide (i = j))) H) : rEq (.str i) (.str j) H Q := ⟨rfl, by
  have e : (V.str i = V.str j) = (i = j) := propext ⟨fun h => V.str.inj h, fun h => by rw [h]⟩
  simp only [e]; exact h⟩
theorem w_neS {i j : Str} (h : Q (.bl (!decide (i = j))) H) : rNe (.str i) (.str j) H Q := ⟨rfl, by
  have e : (V.str i = V.str j) = (i = j) := propext ⟨fun h => V.str.inj h, fun h => by rw [h]⟩
  simp only [e]; exact h⟩
theorem w_isNn (h : Q (.bl true) H) : rIsN .non .non H Q := ⟨rfl, h⟩
theorem w_isNi {i : Int} (h : Q (.bl false) H) : rIsN (.int i) .non H Q := ⟨rfl, h⟩
theorem w_isNr {a : Addr} (h : Q (.bl false) H) : rIsN (.ref a) .non H Q := ⟨rfl, h⟩
theorem w_notNn (h : Q (.bl false) H) : rNotN .non .non H Q := ⟨rfl, h⟩
theorem w_notNi {i : Int} (h : Q (.bl true) H) : rNotN (.int i) .non H Q := ⟨rfl, h⟩
theorem w_notNr {a : Addr} (h : Q (.bl true) H) : rNotN (.ref a) .non H Q := ⟨rfl, h⟩
-- calls
theorem w_call {sp : Sp} {dvs : List V} {E : XK} {t : TA} (h : t σ H fun vs H1 => sp (vs ++ dvs) H1 Q E) : tCall sp dvs E t σ H Q := h
theorem w_cb {r : List V → Hp → VK → Prop} {t : TA} (h : t σ H fun vs H1 => r vs H1 Q) : tCB r t σ H Q := h
def KMeth (C : Addr) (m : Str) (sp : Sp) (dvs : List V) (E : XK) (t : TA) (σ : L2.St) (Q : VK) (x : V) (H1 : Hp) : Prop := ∃ a dx fs, x = .ref a ∧ H1 a = some (.ins C dx fs) ∧ fs.lookup m = none ∧ t σ H1 fun vs H2 => sp (x :: (vs ++ dvs)) H2 Q E
theorem w_meth {C : Addr} {m : Str} {sp : Sp} {dvs : List V} {E : XK} {ta : TE} {t : TA} (h : ta σ H (KMeth C m sp dvs E t σ Q)) : tMeth C m sp dvs E ta t σ H Q := h
theorem k_meth {C a dx : Addr} {fs : List (Str × V)} {m : Str} {sp : Sp} {dvs : List V} {E : XK} {t : TA} (h : H a = some (.ins C dx fs)) (n : fs.lookup m = none) (q : t σ H fun vs H2 => sp (.ref a :: (vs ++ dvs)) H2 Q E) : KMeth C m sp dvs E t σ Q (.ref a) H := ⟨a, dx, fs, rfl, h, n, q⟩
-- W{
theorem k_wat {x : Addr} {W : Wd} {L : List As} {m : Str} {sp : Sp} {dvs : List V} {E : XK} {t : TA} (h : Sep H (watA K x W :: L)) (nm : ∀ {v0 v1 v2 v3 v4 v5 v6 v7 v8 : V}, (flWatched v0 v1 v2 v3 v4 v5 v6 v7 v8).lookup m = none)
    (q : t σ H fun vs H2 => sp (.ref x :: (vs ++ dvs)) H2 Q E) : KMeth (He.ga K "Watched") m sp dvs E t σ Q (.ref x) H := by
  obtain ⟨dx, v0, v1, v2, v3, v4, v5, v6, v7, v8, e⟩ := h.wat
  exact k_meth e nm q
-- W}
def KMake (C : Addr) (sp : Sp) (dvs : List V) (E : XK) (Q : VK) (vs : List V) (H1 : Hp) : Prop := ∀ x dx, H1 x = none → H1 dx = none → dx ≠ x →
  sp (.ref x :: (vs ++ dvs)) (upd (upd H1 dx (.own x)) x (.ins C dx [])) (fun v H2 => v = .non ∧ Q (.ref x) H2) E
theorem w_make {C : Addr} {sp : Sp} {dvs : List V} {E : XK} {t : TA} (h : t σ H (KMake C sp dvs E Q)) : tMake C sp dvs E t σ H Q := h
-- W{
theorem k_winit {p : Prog} {vp : V} {L : List As} {E : XK} (h : Sep H L) (hp : ProgAt K H p vp) (W : p.Wf) (q : ∀ x H', Imm H H' → Sep H' (watA K x (Wd.init p) :: L) → Q (.ref x) H') : KMake (He.ga K "Watched") (sp_Watched_init K w) [] E Q [vp] H :=
  use_winit h hp W q
-- W}
-- tuples and lists
def KTup (Q : VK) (xs : List V) (H1 : Hp) : Prop := xs.length ≤ sizeLine ∧ ∀ p, H1 p = none → Q (.ref p) (upd H1 p (.tup xs))
def KLst (Q : VK) (xs : List V) (H1 : Hp) : Prop := xs.length ≤ sizeLine ∧ ∀ p, H1 p = none → Q (.ref p) (upd H1 p (.lst xs))
theorem w_tup {t : TA} (h : t σ H (KTup Q)) : tTup t σ H Q := h
theorem w_lst {t : TA} (h : t σ H (KLst Q)) : tLst t σ H Q := h
theorem k_tup {L : List As} {xs : List V} (h : Sep H L) (q : ∀ p H', Imm H H' → Sep H' L → SqT K H' p xs → Q (.ref p) H') (n : xs.length ≤ 1000 := by first | decide | (simp only [List.length_cons, List.length_nil]; omega)) : KTup Q xs H :=
  tup_use h n q
theorem k_lst {L : List As} {xs : List V} (h : Sep H L) (q : ∀ p H', Imm H H' → Sep H' (cellA p (.lst xs) :: L) → Q (.ref p) H') (n : xs.length ≤ 1000 := by first | decide | (simp only [List.length_cons, List.length_nil]; omega)) : KLst Q xs H :=
  lst_use h n q
theorem w_ixT {p : Addr} {xs : List V} {i : Int} {v : V} (f : SqT K H p xs) (e : atI xs i = some v) (h : Q v H) : rIxT K (.ref p) (.int i) H Q := ⟨p, xs, i, v, rfl, rfl, f, e, h⟩
theorem w_ixL {p : Addr} {xs : List V} {i : Int} {v : V} (f : SqL K H p xs) (e : atI xs i = some v) (h : Q v H) : rIxL K (.ref p) (.int i) H Q := ⟨p, xs, i, v, rfl, rfl, f, e, h⟩
theorem w_lenL {p : Addr} {xs : List V} (f : SqL K H p xs) (h : Q (.int xs.length) H) : rLenS' K [.ref p] H Q := ⟨p, xs, rfl, .inl f, h⟩
theorem w_lenT {p : Addr} {xs : List V} (f : SqT K H p xs) (h : Q (.int xs.length) H) : rLenS' K [.ref p] H Q := ⟨p, xs, rfl, .inr f, h⟩
theorem w_int1b {b : Bool} (h : Q (.int (if b then 1 else 0)) H) : rInt1 [.bl b] H Q := .inr ⟨b, rfl, h⟩
theorem w_int1 {i : Int} (h : Q (.int i) H) : rInt1 [.int i] H Q := .inl ⟨i, rfl, h⟩
theorem w_cat {L : List As} {a b : Addr} {xs ys : List V} (h : Sep H L) (f : H a = some (.lst xs)) (g : H b = some (.lst ys)) (n : xs.length + ys.length ≤ sizeLine) (q : ∀ p H', Imm H H' → Sep H' (cellA p (.lst (xs ++ ys)) :: L) → Q (.ref p) H') : rCat (.ref a) (.ref b) H Q :=
  ⟨a, b, xs, ys, rfl, rfl, f, g, n, fun p hp => q p _ (Imm.new hp) (h.new hp)⟩
theorem w_rep {L : List As} {a : Addr} {xs : List V} {k : Nat} (h : Sep H L) (f : H a = some (.lst xs)) (n : k ≤ 1000) (m : xs.length ≤ 1000) (q : ∀ p H', Imm H H' → Sep H' (cellA p (.lst (List.replicate k xs).flatten) :: L) → Q (.ref p) H') : rRep (.ref a) (.int (k : Nat)) H Q :=
  ⟨a, _, xs, rfl, rfl, f, by omega, by omega, Nat.le_trans (Nat.mul_le_mul m (by rw [Int.toNat_natCast]; exact n)) (by decide), fun p hp => q p _ (Imm.new hp) (by rw [Int.toNat_natCast]; exact h.new hp)⟩
theorem w_eqNil {L : List As} {a b : Addr} {xs : List V} (f : SqL K H a xs) (g : SqL K H b []) (h : Q (.bl xs.isEmpty) H) : rEqNil K false (.ref a) (.ref b) H Q := ⟨a, b, xs, rfl, rfl, f, g, h⟩
theorem w_neNil {L : List As} {a b : Addr} {xs : List V} (f : SqL K H a xs) (g : SqL K H b []) (h : Q (.bl !xs.isEmpty) H) : rEqNil K true (.ref a) (.ref b) H Q := ⟨a, b, xs, rfl, rfl, f, g, h⟩
theorem w_in {p : Addr} {x : V} {xs : List V} (f : SqL K H p xs ∨ SqT K H p xs) (c : flatV x = true) (d : xs.all flatV = true) (h : Q (.bl (inV x xs)) H) : rIn K false x (.ref p) H Q := ⟨p, xs, rfl, f, c, d, h⟩
theorem w_notIn {p : Addr} {x : V} {xs : List V} (f : SqL K H p xs ∨ SqT K H p xs) (c : flatV x = true) (d : xs.all flatV = true) (h : Q (.bl (!inV x xs)) H) : rIn K true x (.ref p) H Q := ⟨p, xs, rfl, f, c, d, h⟩
-- stores
theorem w_gName {i : Nat} {v : V} {QS : L2.St → Hp → Prop} (e : σ.set i (some v) = σ') (h : QS σ' H) : gName i v σ H QS := by subst e; exact h
theorem w_gTup {n : Nat} {t : TGs} {a : Addr} {xs : List V} {QS : L2.St → Hp → Prop} (f : SqT K H a xs) (e : xs.length = n) (h : t xs σ H QS) : gTup K n t (.ref a) σ H QS := ⟨a, xs, rfl, f, e, h⟩
theorem w_gNil {QS : L2.St → Hp → Prop} (h : QS σ H) : gNil [] σ H QS := ⟨rfl, h⟩
theorem w_gCons {t : TG} {u : TGs} {v : V} {r : List V} {QS : L2.St → Hp → Prop} (h : t v σ H fun σ' H' => u r σ' H' QS) : gCons t u (v :: r) σ H QS := ⟨v, r, rfl, h⟩
theorem w_gSub {to ti : TE} {t : TSet} {v : V} {QS : L2.St → Hp → Prop} (h : to σ H fun o H1 => ti σ H1 fun i H2 => t o i v H2 fun H3 => QS σ H3) : gSub to ti t v σ H QS := h
theorem w_setL {p : Addr} {xs : List V} {k : Int} {j : Nat} {v : V} {QH : Hp → Prop} (f : H p = some (.lst xs)) (e : ixN xs.length k = some j) (h : QH (upd H p (.lst (xs.set j v)))) : rSetL (.ref p) (.int k) v H QH := ⟨p, xs, k, j, rfl, rfl, f, e, h⟩
-- methods of lists
def KBm (K : PySem.W.Frag) (T : String) (r : V → List V → Hp → VK → Prop) (t : TA) (σ : L2.St) (Q : VK) (x : V) (H1 : Hp) : Prop := tyV K T x H1 ∧ t σ H1 fun xs H2 => r x xs H2 Q
theorem w_bm {T : String} {r : V → List V → Hp → VK → Prop} {to : TE} {t : TA} (h : to σ H (KBm K T r t σ Q)) : tBM K T r to t σ H Q := h
theorem w_tyL {r : V → List V → Hp → VK → Prop} {t : TA} {a : Addr} {xs : List V} (f : SqL K H a xs) (h : t σ H fun xs H2 => r (.ref a) xs H2 Q) : KBm K "list" r t σ Q (.ref a) H := ⟨.inl ⟨rfl, xs, f⟩, h⟩
theorem w_append {a : Addr} {xs : List V} {y : V} (f : H a = some (.lst xs)) (n : xs.length < 1000) (h : Q .non (upd H a (.lst (xs ++ [y])))) : rAppend (.ref a) [y] H Q := ⟨a, xs, y, rfl, rfl, f, Nat.lt_of_lt_of_le n (by decide), h⟩
-- slices
theorem w_sl {r : V → Option Int → Option Int → Hp → VK → Prop} {te : TE} {tl th : TO} (h : te σ H fun x H1 => tl σ H1 fun l H2 => th σ H2 fun u H3 => r x l u H3 Q) : tSl r te tl th σ H Q := h
def KPart (QO : Option Int → Hp → Prop) (x : V) (H1 : Hp) : Prop := ∃ i, x = .int i ∧ QO (some i) H1
theorem w_part {t : TE} {QO : Option Int → Hp → Prop} (h : t σ H (KPart QO)) : tPart t σ H QO := h
theorem w_partI {i : Int} {QO : Option Int → Hp → Prop} (h : QO (some i) H) : KPart QO (.int i) H := ⟨i, rfl, h⟩
theorem w_noPart {QO : Option Int → Hp → Prop} (h : QO none H) : tNoPart σ H QO := h
theorem cut_whole {xs : List V} {lo hi : Option Int} (h : HT.sIx xs.length 0 lo = 0 ∧ HT.sIx xs.length xs.length hi = xs.length) : cutV xs lo hi = xs := by
  unfold cutV
  rw [h.1, h.2, List.drop_zero, Nat.sub_zero, List.take_length]
theorem w_slA {L : List As} {p : Addr} {xs : List V} {lo hi : Option Int} (hS : Sep H L) (f : SqT K H p xs) (q : ∀ r H', Imm H H' → Sep H' L → SqT K H' r (cutV xs lo hi) → Q (.ref r) H') : rSlA K (.ref p) lo hi H Q :=
  ⟨p, xs, rfl, f, fun c => q p H (.refl _) hS (by rw [cut_whole c]; exact f), fun _ r hr => q r _ (Imm.new hr) (hS.skip hr) (.inl (.inl upd_same))⟩
theorem w_slL {L : List As} {p : Addr} {xs : List V} {lo hi : Option Int} (hS : Sep H L) (f : SqL K H p xs) (q : ∀ r H', Imm H H' → Sep H' (cellA r (.lst (cutV xs lo hi)) :: L) → Q (.ref r) H') : rSlL K (.ref p) lo hi H Q :=
  ⟨p, xs, rfl, f, fun r hr => q r _ (Imm.new hr) (hS.new hr)⟩
theorem w_ifI {b : Bool} {i j : Int} (h : Q (.int (if b = true then i else j)) H) : if b = true then tC (.int i) σ H Q else tC (.int j) σ H Q := by
  cases b <;> exact h
-- W{
theorem StkAt.get : ∀ {t : List (Nat × Option Nat)} {v : List V} {i : Nat} {x : V}, StkAt K H t v → v[i]? = some x → ∃ a y, x = .ref a ∧ t[i]? = some y ∧ SqT K H a [.int (y.1 : Nat), atV y.2]
  | [], v, i, x, h, e => by rw [show v = [] from h] at e; simp at e
  | y :: r, v, 0, x, ⟨a, s, ev, h, h1⟩, e => by rw [ev] at e; simp at e; subst e; exact ⟨a, y, rfl, rfl, h⟩
  | y :: r, v, i + 1, x, ⟨a, s, ev, h, h1⟩, e => by rw [ev] at e; exact StkAt.get (i := i) h1 (by simpa using e)
-- W}
-- loops
def KFor (g : TG) (tb : TS) (D : Ends) (σ : L2.St) (J : It) (H1 : Hp) : Prop := ∃ W : Nat → Nat → L2.St → Hp → Prop, (∃ m, W 0 m σ H1) ∧ ∀ i m σ H, W i m σ H →
  (J.stop i H ∧ D.nx σ H) ∨ (J.go i H ∧ ∃ N : L2.St → Hp → Prop, (∀ σ' H', N σ' H' → ∃ m', m' < m ∧ W (i + 1) m' σ' H') ∧ ∀ x H', J.yld i H x H' → g x σ H' fun σ2 H2 => tb { D with nx := N, ct := N, bk := D.nx } σ2 H2)
theorem w_for {wi : TI} {g : TG} {tb : TS} (h : wi σ H (KFor g tb D σ)) : tFor wi g tb D σ H := h
def KLc (g : TG) (tt : TT) (te : TE) (vs : List Nat) (σ : L2.St) (Q : VK) (J : It) (H1 : Hp) : Prop := ∀ D, H1 D = none → ∃ W : Nat → Nat → Hp → Prop, (∃ m, W 0 m (upd H1 D (.lst []))) ∧ ∀ i m H, W i m H →
  (J.stop i H ∧ Q (.ref D) H) ∨ (J.go i H ∧ ∃ Nx : Hp → Prop, (∀ H', Nx H' → ∃ m', m' < m ∧ W (i + 1) m' H') ∧ ∀ x H', J.yld i H x H' → g x (wipe σ vs) H' fun σ2 H2 => wipe σ2 vs = wipe σ vs ∧ tt σ2 H2 fun b H3 =>
    if b = true then te σ2 H3 fun y H4 => ∃ acc, H4 D = some (.lst acc) ∧ acc.length < sizeLine ∧ Nx (upd H4 D (.lst (acc ++ [y]))) else Nx H3)
theorem w_lc {wi : TI} {g : TG} {tt : TT} {te : TE} {vs : List Nat} (h : wi σ H (KLc g tt te vs σ Q)) : tLc wi g tt te vs σ H Q := h
def KRng1 (R : It → Hp → Prop) (vs : List V) (H1 : Hp) : Prop := ∃ j : Int, vs = [.int j] ∧ -(2 ^ 62) ≤ j ∧ j < 2 ^ 62 ∧ R (Itr 0 j.toNat) H1
def KItl (K : PySem.W.Frag) (R : It → Hp → Prop) (x : V) (H1 : Hp) : Prop := ∃ a, x = .ref a ∧ (∃ xs, SqL K H1 a xs) ∧ R (Itl K a) H1
def KItt (K : PySem.W.Frag) (R : It → Hp → Prop) (x : V) (H1 : Hp) : Prop := ∃ a, x = .ref a ∧ (∃ xs, SqT K H1 a xs) ∧ R (Itt K a) H1
theorem w_rng1 {ta : TA} {R : It → Hp → Prop} (h : ta σ H (KRng1 R)) : iRng1 ta σ H R := h
theorem w_rng1I {j : Int} {R : It → Hp → Prop} (a : -(2 ^ 62) ≤ j ∧ j < 2 ^ 62) (h : R (Itr 0 j.toNat) H) : KRng1 R [.int j] H := ⟨j, rfl, a.1, a.2, h⟩
theorem w_iList {tl : TE} {R : It → Hp → Prop} (h : tl σ H (KItl K R)) : iList K tl σ H R := h
theorem w_iTup {tl : TE} {R : It → Hp → Prop} (h : tl σ H (KItt K R)) : iTup K tl σ H R := h
theorem w_itl {a : Addr} {xs : List V} {R : It → Hp → Prop} (f : SqL K H a xs) (h : R (Itl K a) H) : KItl K R (.ref a) H := ⟨a, rfl, ⟨xs, f⟩, h⟩
theorem w_itt {a : Addr} {xs : List V} {R : It → Hp → Prop} (f : SqT K H a xs) (h : R (Itt K a) H) : KItt K R (.ref a) H := ⟨a, rfl, ⟨xs, f⟩, h⟩
theorem k_forL {a : Addr} {xs : List V} {g : TG} {tb : TS} (Pv : Nat → L2.St → Hp → Prop) (h0 : Pv 0 σ H) (hG : ∀ i σ H, i ≤ xs.length → Pv i σ H → SqL K H a xs)
    (hs : ∀ i x σ H, i < xs.length → xs[i]? = some x → Pv i σ H → g x σ H fun σ2 H2 => tb { D with nx := Pv (i + 1), ct := Pv (i + 1), bk := D.nx } σ2 H2) (hd : ∀ σ H, Pv xs.length σ H → D.nx σ H) : KFor g tb D σ (Itl K a) H :=
  for_it (walk_list (xs := xs)) Pv h0 hG (fun i x σ H H' hi hP hY => by obtain ⟨rfl, e⟩ := hY; exact hs i x σ H' hi e hP) hd
theorem k_forT {a : Addr} {xs : List V} {g : TG} {tb : TS} (Pv : Nat → L2.St → Hp → Prop) (h0 : Pv 0 σ H) (hG : ∀ i σ H, i ≤ xs.length → Pv i σ H → SqT K H a xs)
    (hs : ∀ i x σ H, i < xs.length → xs[i]? = some x → Pv i σ H → g x σ H fun σ2 H2 => tb { D with nx := Pv (i + 1), ct := Pv (i + 1), bk := D.nx } σ2 H2) (hd : ∀ σ H, Pv xs.length σ H → D.nx σ H) : KFor g tb D σ (Itt K a) H :=
  for_it (walk_tup (xs := xs)) Pv h0 hG (fun i x σ H H' hi hP hY => by obtain ⟨rfl, e⟩ := hY; exact hs i x σ H' hi e hP) hd
theorem k_forR {n : Nat} {g : TG} {tb : TS} (Pv : Nat → L2.St → Hp → Prop) (h0 : Pv 0 σ H)
    (hs : ∀ i σ H, i < n → Pv i σ H → g (.int (i : Nat)) σ H fun σ2 H2 => tb { D with nx := Pv (i + 1), ct := Pv (i + 1), bk := D.nx } σ2 H2) (hd : ∀ σ H, Pv n σ H → D.nx σ H) : KFor g tb D σ (Itr 0 n) H :=
  for_it walk_range Pv h0 (fun _ _ _ _ _ => trivial) (fun i x σ H H' hi hP hY => by
    obtain ⟨rfl, e⟩ := hY
    have e2 : x = .int (i : Nat) := by rw [e]; show V.int (0 + (i : Int)) = _; rw [Int.zero_add]
    subst e2; exact hs i σ H' hi hP) hd
/-- what a comprehension's item leaves: a list that grows -/
def KAcc (D : Addr) (Nx : Hp → Prop) (y : V) (H4 : Hp) : Prop := ∃ acc, H4 D = some (.lst acc) ∧ acc.length < sizeLine ∧ Nx (upd H4 D (.lst (acc ++ [y])))
theorem k_acc {D : Addr} {acc : List V} {y : V} {Nx : Hp → Prop} (f : H D = some (.lst acc)) (n : acc.length < 1000) (h : Nx (upd H D (.lst (acc ++ [y])))) : KAcc D Nx y H := ⟨acc, f, Nat.lt_of_lt_of_le n (by decide), h⟩
def KLcB (g : TG) (tt : TT) (te : TE) (vs : List Nat) (σ : L2.St) (D : Addr) (x : V) (H' : Hp) (Nx : Hp → Prop) : Prop :=
  g x (wipe σ vs) H' fun σ2 H2 => wipe σ2 vs = wipe σ vs ∧ tt σ2 H2 fun b H3 => if b = true then te σ2 H3 (KAcc D Nx) else Nx H3
theorem k_lcB {g : TG} {tt : TT} {te : TE} {vs : List Nat} {D : Addr} {x : V} {Nx : Hp → Prop} (h : g x (wipe σ vs) H fun σ2 H2 => wipe σ2 vs = wipe σ vs ∧ tt σ2 H2 fun b H3 => if b = true then te σ2 H3 (KAcc D Nx) else Nx H3) : KLcB g tt te vs σ D x H Nx := h
theorem k_lcL {L : List As} {a : Addr} {xs : List V} {g : TG} {tt : TT} {te : TE} {vs : List Nat} (hS : Sep H L) (Pv : Addr → Nat → Hp → Prop) (h0 : ∀ D H', Imm H H' → Sep H' (cellA D (.lst []) :: L) → Pv D 0 H') (hG : ∀ D i H, i ≤ xs.length → Pv D i H → SqL K H a xs)
    (hs : ∀ D i x H, i < xs.length → xs[i]? = some x → Pv D i H → KLcB g tt te vs σ D x H (Pv D (i + 1))) (hd : ∀ D H, Pv D xs.length H → Q (.ref D) H) : KLc g tt te vs σ Q (Itl K a) H :=
  fun D hD => lc_it (walk_list (xs := xs)) (Pv D) (h0 D _ (Imm.new hD) (hS.new hD)) (hG D) (fun i x H H' hi hP hY => by obtain ⟨rfl, e⟩ := hY; exact hs D i x H' hi e hP) (hd D)
theorem k_lcT {L : List As} {a : Addr} {xs : List V} {g : TG} {tt : TT} {te : TE} {vs : List Nat} (hS : Sep H L) (Pv : Addr → Nat → Hp → Prop) (h0 : ∀ D H', Imm H H' → Sep H' (cellA D (.lst []) :: L) → Pv D 0 H') (hG : ∀ D i H, i ≤ xs.length → Pv D i H → SqT K H a xs)
    (hs : ∀ D i x H, i < xs.length → xs[i]? = some x → Pv D i H → KLcB g tt te vs σ D x H (Pv D (i + 1))) (hd : ∀ D H, Pv D xs.length H → Q (.ref D) H) : KLc g tt te vs σ Q (Itt K a) H :=
  fun D hD => lc_it (walk_tup (xs := xs)) (Pv D) (h0 D _ (Imm.new hD) (hS.new hD)) (hG D) (fun i x H H' hi hP hY => by obtain ⟨rfl, e⟩ := hY; exact hs D i x H' hi e hP) (hd D)
theorem k_lcR {L : List As} {n : Nat} {g : TG} {tt : TT} {te : TE} {vs : List Nat} (hS : Sep H L) (Pv : Addr → Nat → Hp → Prop) (h0 : ∀ D H', Imm H H' → Sep H' (cellA D (.lst []) :: L) → Pv D 0 H')
    (hs : ∀ D i H, i < n → Pv D i H → KLcB g tt te vs σ D (.int (i : Nat)) H (Pv D (i + 1))) (hd : ∀ D H, Pv D n H → Q (.ref D) H) : KLc g tt te vs σ Q (Itr 0 n) H :=
  fun D hD => lc_it walk_range (Pv D) (h0 D _ (Imm.new hD) (hS.new hD)) (fun _ _ _ _ => trivial) (fun i x H H' hi hP hY => by
    obtain ⟨rfl, e⟩ := hY
    have e2 : x = .int (i : Nat) := by rw [e]; show V.int (0 + (i : Int)) = _; rw [Int.zero_add]
    subst e2; exact hs D i H' hi hP) (hd D)
theorem w_yes {P : Prop} (e : P) (h : QB true H) : P ∧ tYes σ H QB := ⟨e, h⟩
def KWh (tb : TS) (W : Nat → L2.St → Hp → Prop) (D : Ends) (m : Nat) (σ : L2.St) (b : Bool) (H1 : Hp) : Prop := if b = true then ∃ N : L2.St → Hp → Prop, (∀ σ' H', N σ' H' → ∃ m', m' < m ∧ W m' σ' H') ∧ tb { D with nx := N, ct := N, bk := D.nx } σ H1 else D.nx σ H1
theorem w_while {c : TT} {tb : TS} (W : Nat → L2.St → Hp → Prop) (m : Nat) (h0 : W m σ H) (hs : ∀ m σ H, W m σ H → c σ H (KWh tb W D m σ)) : tWhile c tb D σ H := ⟨W, ⟨m, h0⟩, hs⟩
theorem k_turn {tb : TS} {W : Nat → L2.St → Hp → Prop} {m : Nat} (h : tb { D with nx := fun σ' H' => ∃ m', m' < m ∧ W m' σ' H', ct := fun σ' H' => ∃ m', m' < m ∧ W m' σ' H', bk := D.nx } σ H) : KWh tb W D m σ true H := iteT ⟨_, fun _ _ h => h, h⟩
theorem k_done {tb : TS} {W : Nat → L2.St → Hp → Prop} {m : Nat} (h : D.nx σ H) : KWh tb W D m σ false H := iteF h
end
end SD
set_option Elab.async false
set_option linter.all false
set_option maxRecDepth 100000
set_option maxHeartbeats 4000000
namespace SD
open PySem PySem.Spec PyProof.Rows L2 PySem.SeqAt
/-! a tuple beside an empty one -/
def rNeNilT (K : PySem.W.Frag) : R2 := fun x y H Q => ∃ a b xs, x = .ref a ∧ y = .ref b ∧ SqT K H a xs ∧ SqT K H b [] ∧ Q (.bl (!xs.isEmpty)) H
theorem op_neNilT {X : Cx} (hu : X.A.units + 1 < cLine) : OpR X (compareOp .NotEq) (rNeNilT X.K) := by
  intro pins s σ H x y v u Q I rx ry h
  obtain ⟨a, b, xs, rfl, rfl, ha, hb, q⟩ := h
  cases rx; cases ry
  obtain ⟨i1, r1, o1, _⟩ := I.tuple ha
  obtain ⟨i2, r2, o2, _⟩ := I.tuple hb
  cases r2
  cases xs with
  | nil =>
    cases r1
    refine (RcNeAt.tuples (e := fun _ => true) o1 o2 (Nat.lt_of_le_of_lt (Nat.le_succ _) hu) (fun j h1 h2 => absurd h2 (Nat.not_lt_zero _))) X.prog X.w _ _ ?_
    exact ⟨.bl _, H, I, rfl, q⟩
  | cons x0 xs =>
    cases r1
    refine (RcNeAt.tuples (e := fun _ => true) o1 o2 (Nat.lt_of_le_of_lt (Nat.le_succ _) hu) (fun j h1 h2 => absurd h2 (Nat.not_lt_zero _))) X.prog X.w _ _ ?_
    exact ⟨.bl _, H, I, rfl, q⟩
section
variable {K : PySem.W.Frag} {H : Hp} {σ : L2.St} {Q : VK} {QB : Bool → Hp → Prop} {D : Ends}
/-- what follows is walked once, from P -/
theorem w_join {t u : TS} (P : L2.St → Hp → Prop) (ht : ∀ (R : TS), (∀ σ' H', P σ' H' → R D σ' H') → t { D with nx := R D } σ H) (hu : ∀ σ' H', P σ' H' → u D σ' H') : tSeq t u D σ H := ht u hu
theorem w_orJ {u : TT} {c : Bool} (b : Bool) (hu : ∀ QB : Bool → Hp → Prop, QB b H → u σ H QB) (h : QB (c || b) H) : if c = true then QB true H else u σ H QB := by
  cases c with
  | true => exact iteT h
  | false => exact iteF (hu _ h)
theorem w_andJ {u : TT} {c : Bool} (b : Bool) (hu : ∀ QB : Bool → Hp → Prop, QB b H → u σ H QB) (h : QB (c && b) H) : if c = true then u σ H QB else QB false H := by
  cases c with
  | true => exact iteT (hu _ h)
  | false => exact iteF h
theorem w_catA {L : List As} {a b : Addr} {xs ys : List V} (hS : Sep H L) (f : SqT K H a xs) (g : SqT K H b ys) (n : xs.length + ys.length ≤ 1000) (q : ∀ p H', Imm H H' → Sep H' L → SqT K H' p (xs ++ ys) → Q (.ref p) H') : rCatA K (.ref a) (.ref b) H Q :=
  ⟨a, b, xs, ys, rfl, rfl, f, g, small n, fun e => q b H (.refl _) hS (by subst e; exact g), fun _ e => q a H (.refl _) hS (by subst e; rw [List.append_nil]; exact f), fun _ _ p hp => q p _ (Imm.new hp) (hS.skip hp) (.inl (.inl upd_same))⟩
theorem w_isi {x : V} {n : String} {b : Bool} (h : IsiOf K H x n b) (q : Q (.bl b) H) : rIsi' K [x, .ty n] H Q := ⟨x, n, b, rfl, h, q⟩
theorem w_neNilT {a b : Addr} {xs : List V} (f : SqT K H a xs) (g : SqT K H b []) (h : Q (.bl !xs.isEmpty) H) : rNeNilT K (.ref a) (.ref b) H Q := ⟨a, b, xs, rfl, rfl, f, g, h⟩
theorem isi_strT (i : Str) : IsiOf K H (.str i) "tuple" false := ⟨_, .base (.str i), kit_ty (by decide +kernel)⟩
theorem isi_intS (i : Int) : IsiOf K H (.int i) "str" false := ⟨_, .base (.int i), kit_ty (by decide +kernel)⟩
theorem isi_tupS {a : Addr} {xs : List V} (h : SqT K H a xs) : IsiOf K H (.ref a) "str" false := ⟨_, tyT h, kit_ty (by decide +kernel)⟩
theorem w_tupL {L : List As} {a : Addr} {xs : List V} (hS : Sep H L) (f : SqL K H a xs) (q : ∀ p H', Imm H H' → Sep H' L → SqT K H' p xs → Q (.ref p) H') : rTupleOf K [.ref a] H Q :=
  ⟨a, xs, rfl, .inl ⟨f, fun p hp => q p _ (Imm.new hp) (hS.skip hp) (.inl (.inl upd_same))⟩⟩
theorem k_tupS {xs : List V} (q : ∀ p H', Same H H' → SqT K H' p xs → Q (.ref p) H') (n : xs.length ≤ 1000 := by decide) : KTup Q xs H := ⟨small n, fun p hp => q p _ (same_new hp _) (.inl (.inl upd_same))⟩
def KFrz (nx : L2.St → Hp → Prop) (σ1 : L2.St) (H1 : Hp) : Prop := ∃ L : Addr → Prop, ∀ H2, Frzd L H1 H2 → nx σ1 H2
theorem w_frzS {t : TS} (h : t { D with nx := KFrz D.nx } σ H) : tFrzS t D σ H := h
theorem k_frz {L : List As} {p : Addr} {xs : List V} {nx : L2.St → Hp → Prop} (h : Sep H (cellA p (.lst xs) :: L)) (q : ∀ H', Imm H H' → Sep H' L → SqF K H' p xs → nx σ H') : KFrz nx σ H := by
  obtain ⟨c, R, rfl, h2, h3⟩ := h.open
  refine ⟨(· = p), fun H2 fz => q H2 (Imm.frzd fz) ⟨R, ?_, h3.mono (Imm.frzd fz)⟩ (sqf_of fz rfl h2.head)⟩
  exact h2.right.frzd fz fun x hx e => by
    have e : x.1 = p := e
    exact (List.nodup_cons.mp h2.nd).1 (List.mem_map.mpr ⟨x, hx, e⟩)
end
abbrev rMin2' : List V → Hp → VK → Prop := fun xs H Q => ∃ i j, xs = [.int i, .int j] ∧ Q (.int (if j < i then j else i)) H
abbrev rMax2' : List V → Hp → VK → Prop := fun xs H Q => ∃ i j, xs = [.int i, .int j] ∧ Q (.int (if j > i then j else i)) H
section
variable {K : PySem.W.Frag} {H : Hp} {σ : L2.St} {Q : VK}
theorem w_min {i j : Int} (h : Q (.int (if j < i then j else i)) H) : rMin2' [.int i, .int j] H Q := ⟨i, j, rfl, h⟩
theorem w_max {i j : Int} (h : Q (.int (if j > i then j else i)) H) : rMax2' [.int i, .int j] H Q := ⟨i, j, rfl, h⟩
theorem w_neB {i j : Bool} (h : Q (.bl (!decide (i = j))) H) : rNe (.bl i) (.bl j) H Q := ⟨rfl, by
  have e : (V.bl i = V.bl j) = (i = j) := propext ⟨fun h => V.bl.inj h, fun h => by rw [h]⟩
  simp only [e]; exact h⟩
theorem w_eqB {i j : Bool} (h : Q (.bl (decide (i = j))) H) : rEq (.bl i) (.bl j) H Q := ⟨rfl, by
  have e : (V.bl i = V.bl j) = (i = j) := propext ⟨fun h => V.bl.inj h, fun h => by rw [h]⟩
  simp only [e]; exact h⟩
theorem w_isNb {b : Bool} (h : Q (.bl false) H) : rIsN (.bl b) .non H Q := ⟨rfl, h⟩
theorem w_isNs {b : Str} (h : Q (.bl false) H) : rIsN (.str b) .non H Q := ⟨rfl, h⟩
theorem w_ixAT {p : Addr} {xs : List V} {i : Int} {v : V} (f : SqT K H p xs) (e : atI xs i = some v) (h : Q v H) : rIx K (.ref p) (.int i) H Q := .inr (.inl (w_ixT f e h))
theorem w_ixAL {p : Addr} {xs : List V} {i : Int} {v : V} (f : SqL K H p xs) (e : atI xs i = some v) (h : Q v H) : rIx K (.ref p) (.int i) H Q := .inl (w_ixL f e h)
theorem w_sum {a : Addr} {ns : List Int} (f : SqL K H a (ns.map V.int)) (h : Q (.int ns.sum) H) : rSum K [.ref a] H Q := ⟨a, ns, rfl, f, h⟩
theorem cutB2 (xs : List V) : cutV xs (some 2) none = xs.drop 2 := by
  unfold cutV
  rw [show HT.sIx xs.length 0 (some 2) = min 2 xs.length from HT.sIx_nat xs.length 0 2, HT.sIx_none]
  rcases Nat.lt_or_ge xs.length 2 with h | h
  · rw [Nat.min_eq_right (by omega), List.drop_of_length_le (Nat.le_refl _), List.drop_of_length_le (by omega), List.take_nil]
  · rw [Nat.min_eq_left h, List.take_of_length_le (by rw [List.length_drop]; exact Nat.le_refl _)]
end
end SD
set_option Elab.async false
set_option linter.all false
set_option maxRecDepth 100000
set_option maxHeartbeats 4000000
namespace SD
/-! ### going on depends on the core alone; what a going comes to, by its count of deeds -/
structure Core (w v : Wd) : Prop where
  p : w.p = v.p
  M : w.M = v.M
  stops : w.stops = v.stops
  made : w.made = v.made
theorem Core.rfl' (w : Wd) : Core w w := ⟨rfl, rfl, rfl, rfl⟩
theorem Core.trans {w v u : Wd} (a : Core w v) (b : Core v u) : Core w u := ⟨a.p.trans b.p, a.M.trans b.M, a.stops.trans b.stops, a.made.trans b.made⟩
theorem Core.symm {w v : Wd} (a : Core w v) : Core v w := ⟨a.p.symm, a.M.symm, a.stops.symm, a.made.symm⟩
theorem Core.begin {w v : Wd} (h : Core w v) (g : Option (Nat × Way × Nat)) (m : Nat) : w.begin g m = v.begin g m := by
  obtain ⟨p, M, s, d, a, b, c, e⟩ := w
  obtain ⟨p', M', s', d', a', b', c', e'⟩ := v
  obtain ⟨h1, h2, h3, h4⟩ := h
  simp only at h1 h2 h3 h4
  subst h1; subst h2; subst h3; subst h4
  rfl
theorem Core.step {w v : Wd} (h : Core w v) (k : Nat) (y : Way) (m : Nat) : w.step k y m = v.step k y m := by
  unfold Wd.step
  rw [h.begin, h.M]
theorem Core.go {w v : Wd} (h : Core w v) (m : Nat) : w.go m = v.go m := by
  unfold Wd.go
  rw [h.begin]
def deedN : Nat → Mach → Mach
  | 0, M => M
  | n + 1, M => deedN n M.deed
theorem finish_deeds : ∀ (n : Nat) {w : Wd}, WOk w → ∃ k, k ≤ n ∧ (Wd.finish n w).2.M = deedN k w.M ∧ (Wd.finish n w).2.M.done = w.M.done + k ∧ (Wd.finish n w).2.p = w.p ∧ (Wd.finish n w).2.stops = w.stops ∧ (Wd.finish n w).2.made = w.made
  | 0, w, o => ⟨0, Nat.zero_le _, rfl, rfl, rfl, rfl, rfl⟩
  | n + 1, w, o => by
    unfold Wd.finish
    cases e : w.event with
    | some v => exact ⟨0, Nat.zero_le _, rfl, rfl, rfl, rfl, rfl⟩
    | none =>
      have ho := Wd.event_over e
      obtain ⟨k, k0, k1, k2, k3, k4, k5⟩ := finish_deeds n (o.on ho)
      obtain ⟨f, r, d, t, e1, e2⟩ := o.M.next o.nx ho
      refine ⟨k + 1, Nat.succ_le_succ k0, k1, ?_, k3, k4, k5⟩
      show (Wd.finish n w.on).2.M.done = _
      rw [k2]
      show w.M.deed.done + k = _
      rw [deed_done e1 e2]; omega
theorem finish_core {n n' : Nat} {w w' : Wd} (o : WOk w) (o' : WOk w') (c : Core w w') (h : (Wd.finish n w).2.M.done = (Wd.finish n' w').2.M.done) : Core (Wd.finish n w).2 (Wd.finish n' w').2 := by
  obtain ⟨k, _, k1, k2, k3, k4, k5⟩ := finish_deeds n o
  obtain ⟨j, _, j1, j2, j3, j4, j5⟩ := finish_deeds n' o'
  have e : k = j := by rw [k2, j2, c.M] at h; omega
  subst e
  exact ⟨by rw [k3, j3, c.p], by rw [k1, j1, c.M], by rw [k4, j4, c.stops], by rw [k5, j5, c.made]⟩
theorem finish_done {n : Nat} {w : Wd} (o : WOk w) : (Wd.finish n w).2.M.done ≤ w.M.done + n := by
  obtain ⟨k, k0, _, k2, _⟩ := finish_deeds n o
  omega
theorem WOk.core {w v : Wd} (o : WOk w) (c : Core w v) (hg : ∀ g, v.goal = some g → g.1 < v.M.hands.length) : WOk v :=
  ⟨by rw [← c.p]; exact o.W, by rw [← c.M]; exact o.M, by rw [← c.M]; exact o.nx, by rw [← c.M, ← c.p]; exact o.heads, by rw [← c.M, ← c.p]; exact o.pf, by rw [← c.M, ← c.p]; exact o.cells, by rw [← c.stops]; exact o.few, by rw [← c.stops]; exact o.asc,
    by rw [← c.stops, ← c.made]; exact o.low, by rw [← c.stops, ← c.p]; exact o.wish, hg⟩
end SD
set_option Elab.async false
set_option linter.all false
set_option maxRecDepth 100000
set_option maxHeartbeats 4000000
namespace SD
/-! ### goings by their times, plainly -/
def onN : Nat → Wd → Wd
  | 0, w => w
  | n + 1, w => onN n w.on
theorem onN_succ : ∀ (t : Nat) (w : Wd), onN (t + 1) w = (onN t w).on
  | 0, w => rfl
  | t + 1, w => onN_succ t w.on
theorem deedN_succ : ∀ (t : Nat) (M : Mach), deedN (t + 1) M = (deedN t M).deed
  | 0, M => rfl
  | t + 1, M => deedN_succ t M.deed
theorem deedN_add : ∀ (s t : Nat) (M : Mach), deedN (s + t) M = deedN t (deedN s M)
  | 0, t, M => by rw [Nat.zero_add]; rfl
  | s + 1, t, M => by rw [show s + 1 + t = (s + t) + 1 by omega]; exact deedN_add s t M.deed
theorem onN_M : ∀ (t : Nat) (w : Wd), (onN t w).M = deedN t w.M
  | 0, w => rfl
  | t + 1, w => onN_M t w.on
theorem onN_p : ∀ (t : Nat) (w : Wd), (onN t w).p = w.p
  | 0, w => rfl
  | t + 1, w => onN_p t w.on
theorem onN_stops : ∀ (t : Nat) (w : Wd), (onN t w).stops = w.stops
  | 0, w => rfl
  | t + 1, w => onN_stops t w.on
theorem onN_made : ∀ (t : Nat) (w : Wd), (onN t w).made = w.made
  | 0, w => rfl
  | t + 1, w => onN_made t w.on
theorem onN_goal : ∀ (t : Nat) (w : Wd), (onN t w).goal = w.goal
  | 0, w => rfl
  | t + 1, w => onN_goal t w.on
theorem onN_left : ∀ (t : Nat) (w : Wd), (onN t w).left = w.left - t
  | 0, w => rfl
  | t + 1, w => by rw [onN_succ]; show (onN t w).left - 1 = _; rw [onN_left t w]; omega
theorem onN_first : ∀ (t : Nat) (w : Wd), (onN t w).first = (w.first && decide (t = 0))
  | 0, w => by show w.first = _; simp
  | t + 1, w => by rw [onN_succ]; show false = _; simp
/-- whether the hand did a deed in the first t -/
def mvB (h : Nat) (M : Mach) : Nat → Bool
  | 0 => false
  | t + 1 => mvB h M t || decide ((deedN t M).whose = h)
theorem mvB_iff {h : Nat} {M : Mach} : ∀ {t : Nat}, mvB h M t = true ↔ ∃ u, u < t ∧ (deedN u M).whose = h
  | 0 => ⟨(fun e => by cases e), fun ⟨u, hu, _⟩ => absurd hu (Nat.not_lt_zero _)⟩
  | t + 1 => by
    show (mvB h M t || decide ((deedN t M).whose = h)) = true ↔ _
    rw [Bool.or_eq_true, decide_eq_true_eq, mvB_iff (t := t)]
    constructor
    · rintro (⟨u, h1, h2⟩ | h1)
      · exact ⟨u, by omega, h2⟩
      · exact ⟨t, by omega, h1⟩
    · rintro ⟨u, h1, h2⟩
      by_cases e : u = t
      · subst e; exact .inr h2
      · exact .inl ⟨u, by omega, h2⟩
theorem onN_moved {h : Nat} {y : Way} {dp : Nat} : ∀ (t : Nat) (w : Wd), w.goal = some (h, y, dp) → (onN t w).moved = (w.moved || mvB h w.M t)
  | 0, w, _ => by show w.moved = _; simp [mvB]
  | t + 1, w, e => by
    rw [onN_succ]
    show ((onN t w).moved || ((onN t w).goal.any fun g => decide ((onN t w).M.whose = g.1))) = _
    rw [onN_moved t w e, onN_goal, onN_M, e]
    show ((w.moved || mvB h w.M t) || decide ((deedN t w.M).whose = h)) = (w.moved || (mvB h w.M t || decide ((deedN t w.M).whose = h)))
    rw [Bool.or_assoc]
theorem WOk.onN : ∀ {t : Nat} {w : Wd}, WOk w → (∀ u, u < t → (SD.onN u w).event = none) → WOk (SD.onN t w)
  | 0, w, o, _ => o
  | t + 1, w, o, h => by
    rw [onN_succ]
    exact (WOk.onN o fun u hu => h u (by omega)).on (Wd.event_over (h t (by omega)))
/-- a going ends at the first time at which something ends it -/
theorem finish_on : ∀ (n : Nat) {w : Wd}, w.left = n → ∃ T e, T ≤ n ∧ (∀ t, t < T → (onN t w).event = none) ∧ (onN T w).event = some e ∧ Wd.finish n w = (e, onN T w)
  | 0, w, hl => by
    cases e : w.event with
    | none => have := Wd.left_pos e; omega
    | some v => exact ⟨0, v, Nat.le_refl _, fun t ht => absurd ht (Nat.not_lt_zero _), e, by unfold Wd.finish; rw [e]; rfl⟩
  | n + 1, w, hl => by
    unfold Wd.finish
    cases e : w.event with
    | some v => exact ⟨0, v, Nat.zero_le _, fun t ht => absurd ht (Nat.not_lt_zero _), e, rfl⟩
    | none =>
      obtain ⟨T, v, h1, h2, h3, h4⟩ := finish_on n (w := w.on) (by show w.left - 1 = n; omega)
      refine ⟨T + 1, v, by omega, fun t ht => ?_, h3, h4⟩
      rcases t with _ | t
      · exact e
      · exact h2 t (by omega)
/-- an event, with no stops, of a step under way -/
theorem event_step {w : Wd} {h : Nat} {y : Way} {dp : Nat} (hs : w.stops = []) (hg : w.goal = some (h, y, dp)) :
    w.event = if w.M.isOver = true then some .over else if (w.M.hands.getD h []).isEmpty = true then some (.ended h) else
      if w.first = false ∧ w.M.whose = h ∧ w.moved = true ∧ wayOk y (w.M.hands.getD h []).length dp = true then some (.step h (w.M.place h)) else w.paused := by
  unfold Wd.event
  split
  · rfl
  · rw [hg]
    show (if (w.M.hands.getD h []).isEmpty = true then some (Ev.ended h) else w.rest) = _
    split
    · rfl
    · unfold Wd.rest
      have hm : w.met = none := by unfold Wd.met; rw [hs]; rfl
      rw [hm]
      cases hf : w.first with
      | true => rw [if_pos rfl, if_neg (by simp)]
      | false =>
        rw [if_neg (by simp)]
        show (if w.reached = true then some (Ev.step w.M.whose (w.M.place w.M.whose)) else w.paused) = _
        unfold Wd.reached
        rw [hg]
        show (if (decide (w.M.whose = h) && (w.moved && wayOk y (w.M.hands.getD h []).length dp)) = true then _ else _) = _
        by_cases c : w.M.whose = h ∧ w.moved = true ∧ wayOk y (w.M.hands.getD h []).length dp = true
        · rw [if_pos (by simp only [Bool.and_eq_true, decide_eq_true_eq]; exact c), if_pos ⟨rfl, c⟩, c.1]
        · rw [if_neg (by simp only [Bool.and_eq_true, decide_eq_true_eq]; exact c), if_neg fun z => c z.2]
/-- what a step comes to, by times -/
structure StepT (M : Mach) (h : Nat) (y : Way) (dp many : Nat) (T : Nat) (e : Ev) : Prop where
  le : T ≤ many
  live : ∀ t, t < T → (deedN t M).isOver = false ∧ ((deedN t M).hands.getD h []).isEmpty = false ∧ ¬ (t ≠ 0 ∧ (deedN t M).whose = h ∧ mvB h M t = true ∧ wayOk y ((deedN t M).hands.getD h []).length dp = true) ∧ t < many
  ev : (e = .over ∧ (deedN T M).isOver = true) ∨ (e = .ended h ∧ (deedN T M).isOver = false ∧ ((deedN T M).hands.getD h []).isEmpty = true) ∨
    (e = .step h ((deedN T M).place h) ∧ (deedN T M).isOver = false ∧ ((deedN T M).hands.getD h []).isEmpty = false ∧ T ≠ 0 ∧ (deedN T M).whose = h ∧ mvB h M T = true ∧ wayOk y ((deedN T M).hands.getD h []).length dp = true) ∨
    (e = .paused (deedN T M).whose ((deedN T M).place (deedN T M).whose) ∧ (deedN T M).isOver = false ∧ ((deedN T M).hands.getD h []).isEmpty = false ∧ T = many ∧ ¬ (T ≠ 0 ∧ (deedN T M).whose = h ∧ mvB h M T = true ∧ wayOk y ((deedN T M).hands.getD h []).length dp = true))
theorem step_times {w : Wd} (hs : w.stops = []) (h : Nat) (y : Way) (many : Nat) : ∃ T, StepT w.M h y (w.M.hands.getD h []).length many T (w.step h y many).1 ∧ (w.step h y many).2.M = deedN T w.M ∧ (w.step h y many).2.stops = [] ∧ (w.step h y many).2.p = w.p ∧ (w.step h y many).2.made = w.made := by
  unfold Wd.step
  generalize hdp : (w.M.hands.getD h []).length = dp
  have hg : (w.begin (some (h, y, dp)) many).goal = some (h, y, dp) := rfl
  obtain ⟨T, e, hT, h1, h2, h3⟩ := finish_on many (w := w.begin (some (h, y, dp)) many) rfl
  have hev : ∀ t, (onN t (w.begin (some (h, y, dp)) many)).event = if (deedN t w.M).isOver = true then some .over else if ((deedN t w.M).hands.getD h []).isEmpty = true then some (.ended h) else
      if t ≠ 0 ∧ (deedN t w.M).whose = h ∧ mvB h w.M t = true ∧ wayOk y ((deedN t w.M).hands.getD h []).length dp = true then some (.step h ((deedN t w.M).place h)) else
      if many - t = 0 then some (.paused (deedN t w.M).whose ((deedN t w.M).place (deedN t w.M).whose)) else none := by
    intro t
    rw [event_step (h := h) (y := y) (dp := dp) (by rw [onN_stops]; exact hs) (by rw [onN_goal]; rfl), onN_M, onN_first, onN_moved t _ hg]
    have e1 : ((w.begin (some (h, y, dp)) many).first && decide (t = 0)) = false ↔ t ≠ 0 := by
      show (true && decide (t = 0)) = false ↔ _
      simp
    have e2 : ((w.begin (some (h, y, dp)) many).moved || mvB h (w.begin (some (h, y, dp)) many).M t) = mvB h w.M t := by
      show (false || mvB h w.M t) = _
      rw [Bool.false_or]
    have e3 : (onN t (w.begin (some (h, y, dp)) many)).paused = if many - t = 0 then some (.paused (deedN t w.M).whose ((deedN t w.M).place (deedN t w.M).whose)) else none := by
      unfold Wd.paused
      rw [onN_left, onN_M]; rfl
    rw [e2, e3]
    simp only [e1]
    rfl
  refine ⟨T, ⟨hT, fun t ht => ?_, ?_⟩, ?_⟩
  · have := h1 t ht
    rw [hev t] at this
    by_cases c1 : (deedN t w.M).isOver = true
    · rw [if_pos c1] at this; cases this
    rw [if_neg c1] at this
    by_cases c2 : ((deedN t w.M).hands.getD h []).isEmpty = true
    · rw [if_pos c2] at this; cases this
    rw [if_neg c2] at this
    by_cases c3 : t ≠ 0 ∧ (deedN t w.M).whose = h ∧ mvB h w.M t = true ∧ wayOk y ((deedN t w.M).hands.getD h []).length dp = true
    · rw [if_pos c3] at this; cases this
    exact ⟨by simpa using c1, by simpa using c2, c3, by omega⟩
  · rw [h3]
    rw [hev T] at h2
    by_cases c1 : (deedN T w.M).isOver = true
    · rw [if_pos c1] at h2; exact .inl ⟨(Option.some.inj h2).symm, c1⟩
    rw [if_neg c1] at h2
    have c1' : (deedN T w.M).isOver = false := by simpa using c1
    by_cases c2 : ((deedN T w.M).hands.getD h []).isEmpty = true
    · rw [if_pos c2] at h2; exact .inr (.inl ⟨(Option.some.inj h2).symm, c1', c2⟩)
    rw [if_neg c2] at h2
    have c2' : ((deedN T w.M).hands.getD h []).isEmpty = false := by simpa using c2
    by_cases c3 : T ≠ 0 ∧ (deedN T w.M).whose = h ∧ mvB h w.M T = true ∧ wayOk y ((deedN T w.M).hands.getD h []).length dp = true
    · rw [if_pos c3] at h2; exact .inr (.inr (.inl ⟨(Option.some.inj h2).symm, c1', c2', c3⟩))
    rw [if_neg c3] at h2
    by_cases c4 : many - T = 0
    · rw [if_pos c4] at h2; exact .inr (.inr (.inr ⟨(Option.some.inj h2).symm, c1', c2', by omega, c3⟩))
    · rw [if_neg c4] at h2; cases h2
  · rw [h3]
    exact ⟨onN_M T _, by rw [onN_stops]; exact hs, onN_p T _, onN_made T _⟩
/-- one in-step of those that lead to where a step over, out comes to -/
theorem in_step {M : Mach} {h : Nat} {y : Way} {dp T : Nat} {s : Nat} {T' : Nat} {e : Ev} {dp' : Nat} (hT : T ≤ 300) (live : ∀ t, t < T → (deedN t M).isOver = false ∧ ((deedN t M).hands.getD h []).isEmpty = false ∧ ¬ (t ≠ 0 ∧ (deedN t M).whose = h ∧ mvB h M t = true ∧ wayOk y ((deedN t M).hands.getD h []).length dp = true))
    (o1 : (deedN T M).isOver = false) (o2 : ((deedN T M).hands.getD h []).isEmpty = false) (o4 : (deedN T M).whose = h) (o5 : mvB h M T = true) (hs : s < T) (hm : s = 0 ∨ (deedN s M).whose = h)
    (S : StepT (deedN s M) h .inn dp' 300 T' e) : e = .step h ((deedN (s + T') M).place h) ∧ s < s + T' ∧ s + T' ≤ T ∧ (deedN (s + T') M).whose = h ∧ mvB h M (s + T') = true := by
  have hadd : ∀ t, deedN t (deedN s M) = deedN (s + t) M := fun t => (deedN_add s t M).symm
  have hmv : mvB h (deedN s M) (T - s) = true := by
    rw [mvB_iff]
    rcases hm with rfl | hm
    · obtain ⟨u, hu, hw⟩ := mvB_iff.mp o5
      exact ⟨u, by omega, by rw [hadd, Nat.zero_add]; exact hw⟩
    · exact ⟨0, by omega, hm⟩
  have hle : T' ≤ T - s := by
    refine Nat.le_of_not_lt fun hlt => ?_
    have := (S.live (T - s) hlt).2.2.1
    refine this ⟨by omega, ?_, hmv, rfl⟩
    rw [hadd, show s + (T - s) = T by omega]; exact o4
  have hno : (deedN (s + T') M).isOver = false ∧ ((deedN (s + T') M).hands.getD h []).isEmpty = false := by
    by_cases c : s + T' < T
    · exact ⟨(live _ c).1, (live _ c).2.1⟩
    · rw [show s + T' = T by omega]; exact ⟨o1, o2⟩
  rcases S.ev with ⟨rfl, c⟩ | ⟨rfl, c1, c2⟩ | ⟨rfl, c1, c2, c3, c4, c5, c6⟩ | ⟨rfl, c1, c2, c3, c4⟩
  · rw [hadd, hno.1] at c; cases c
  · rw [hadd, hno.2] at c2; cases c2
  · rw [hadd] at c4
    refine ⟨by rw [hadd], by omega, by omega, c4, ?_⟩
    obtain ⟨u, hu, hw⟩ := mvB_iff.mp c5
    rw [hadd] at hw
    exact mvB_iff.mpr ⟨s + u, by omega, hw⟩
  · exfalso
    have : T' = T - s := by omega
    refine c4 ⟨by omega, ?_, by rw [this]; exact hmv, rfl⟩
    rw [hadd, show s + T' = T by omega]; exact o4
end SD
set_option Elab.async false
set_option linter.all false
set_option maxRecDepth 100000
set_option maxHeartbeats 4000000
namespace SD
open PySem PySem.Spec PyProof.Rows L2
/-! ### programs as data -/
def ptD : Pt → PyData
  | .num n => .tuple [.str "num", .int n]
  | .name k => .tuple [.str "name", .int (k : Nat)]
  | .cell k => .tuple [.str "cell", .int (k : Nat)]
  | .two o a b => .tuple [.str o.str, ptD a, ptD b]
def ptsD : List Pt → List PyData
  | [] => []
  | p :: r => ptD p :: ptsD r
mutual
def ddD : Dd → PyData
  | .set k x => .tuple [.str "set", .int (k : Nat), ptD x]
  | .put k x => .tuple [.str "put", .int (k : Nat), ptD x]
  | .say x => .tuple [.str "say", ptD x]
  | .iff x b c => .tuple [.str "if", ptD x, .tuple (ddsD b), .tuple (ddsD c)]
  | .again x b => .tuple [.str "again", ptD x, .tuple (ddsD b)]
  | .call f xs k => .tuple [.str "call", .int (f : Nat), .tuple (ptsD xs), .int (k : Nat)]
  | .ret x => .tuple [.str "return", ptD x]
def ddsD : List Dd → List PyData
  | [] => []
  | d :: r => ddD d :: ddsD r
end
def fnsD : List Fn → List PyData
  | [] => []
  | f :: r => .tuple [.int (f.params : Nat), .int (f.names : Nat), .tuple (ddsD f.body)] :: fnsD r
def progD (p : Prog) : PyData := .tuple [.tuple (intsD p.cells), .tuple (fnsD p.funs), .tuple (intsD (p.hands.map fun n => ((n : Nat) : Int)))]
section
variable {K : PySem.W.Frag} {H : Hp}
theorem pt_dp : ∀ {p : Pt} {v : V}, PtAt K H p v → Dp K H v (ptD p)
  | .num n, v, ⟨a, e, h⟩ => by rw [e]; exact .tup h (.cons (.str _) (.cons (.int _) .nil))
  | .name n, v, ⟨a, e, h⟩ => by rw [e]; exact .tup h (.cons (.str _) (.cons (.int _) .nil))
  | .cell n, v, ⟨a, e, h⟩ => by rw [e]; exact .tup h (.cons (.str _) (.cons (.int _) .nil))
  | .two o x y, v, ⟨a, vx, vy, e, h, h1, h2⟩ => by rw [e]; exact .tup h (.cons (.str _) (.cons (pt_dp h1) (.cons (pt_dp h2) .nil)))
theorem pts_dp : ∀ {p : List Pt} {v : List V}, PtsAt K H p v → DpAll K H v (ptsD p)
  | [], v, h => by rw [show v = [] from h]; exact .nil
  | p :: r, v, ⟨a, t, e, h, h1⟩ => by rw [e]; exact .cons (pt_dp h) (pts_dp h1)
mutual
theorem dd_dp : ∀ {d : Dd} {v : V}, DdAt K H d v → Dp K H v (ddD d)
  | .set k x, v, ⟨a, vx, e, h, h1⟩ => by rw [e]; exact .tup h (.cons (.str _) (.cons (.int _) (.cons (pt_dp h1) .nil)))
  | .put k x, v, ⟨a, vx, e, h, h1⟩ => by rw [e]; exact .tup h (.cons (.str _) (.cons (.int _) (.cons (pt_dp h1) .nil)))
  | .say x, v, ⟨a, vx, e, h, h1⟩ => by rw [e]; exact .tup h (.cons (.str _) (.cons (pt_dp h1) .nil))
  | .iff x b c, v, ⟨a, vx, vb, vc, bs, cs, e, h, h1, h2, h3, h4, h5⟩ => by rw [e]; exact .tup h (.cons (.str _) (.cons (pt_dp h1) (.cons (.tup h2 (dds_dp h3)) (.cons (.tup h4 (dds_dp h5)) .nil))))
  | .again x b, v, ⟨a, vx, vb, bs, e, h, h1, h2, h3⟩ => by rw [e]; exact .tup h (.cons (.str _) (.cons (pt_dp h1) (.cons (.tup h2 (dds_dp h3)) .nil)))
  | .call f xs k, v, ⟨a, vp, ps, e, h, h1, h2⟩ => by rw [e]; exact .tup h (.cons (.str _) (.cons (.int _) (.cons (.tup h1 (pts_dp h2)) (.cons (.int _) .nil))))
  | .ret x, v, ⟨a, vx, e, h, h1⟩ => by rw [e]; exact .tup h (.cons (.str _) (.cons (pt_dp h1) .nil))
theorem dds_dp : ∀ {d : List Dd} {v : List V}, DdsAt K H d v → DpAll K H v (ddsD d)
  | [], v, h => by rw [show v = [] from h]; exact .nil
  | d :: r, v, ⟨a, t, e, h, h1⟩ => by rw [e]; exact .cons (dd_dp h) (dds_dp h1)
end
theorem fns_dp : ∀ {d : List Fn} {v : List V}, FnsAt K H d v → DpAll K H v (fnsD d)
  | [], v, h => by rw [show v = [] from h]; exact .nil
  | d :: r, v, ⟨a, t, e, ⟨b, vb, e2, h2, c, vs, e3, h3, h4⟩, h1⟩ => by
    rw [e, e2]; subst e3
    exact .cons (.tup h2 (.cons (.int _) (.cons (.int _) (.cons (.tup h3 (dds_dp h4)) .nil)))) (fns_dp h1)
theorem prog_dp {p : Prog} {v : V} : ProgAt K H p v → Dp K H v (progD p)
  | ⟨a, c, f, h, fs, e, h1, h2, h3, h4, h5⟩ => by
    rw [e]
    have e5 : (p.hands.map fun n => V.int (n : Nat)) = (p.hands.map fun n => ((n : Nat) : Int)).map V.int := by rw [List.map_map]; rfl
    rw [e5] at h5
    exact .tup h1 (.cons (.tup h2 (ints_dp _)) (.cons (.tup h3 (fns_dp h4)) (.cons (.tup h5 (ints_dp _)) .nil)))
end
/-! how many things stand in a tree -/
mutual
def cntD : PyData → Nat
  | .tuple xs => cntAll xs
  | _ => 0
def cntAll : List PyData → Nat
  | [] => 0
  | x :: r => (cntD x + headS x) + cntAll r
def headS : PyData → Nat
  | .tuple (.str _ :: _) => 1
  | _ => 0
end
theorem pt_cnt : ∀ p : Pt, cntD (ptD p) + headS (ptD p) = p.sz
  | .num n => rfl
  | .name n => rfl
  | .cell n => rfl
  | .two o a b => by
    show ((0 + 0) + ((cntD (ptD a) + headS (ptD a)) + ((cntD (ptD b) + headS (ptD b)) + 0))) + 1 = 1 + a.sz + b.sz
    rw [pt_cnt a, pt_cnt b]; omega
theorem pts_cnt : ∀ p : List Pt, cntAll (ptsD p) = szPs p
  | [] => rfl
  | p :: r => by
    show (cntD (ptD p) + headS (ptD p)) + cntAll (ptsD r) = p.sz + szPs r
    rw [pt_cnt p, pts_cnt r]
theorem dds_head : ∀ b : List Dd, headS (.tuple (ddsD b)) = 0
  | [] => rfl
  | d :: r => by cases d <;> rfl
theorem pts_head : ∀ b : List Pt, headS (.tuple (ptsD b)) = 0
  | [] => rfl
  | d :: r => by cases d <;> rfl
mutual
theorem dd_cnt : ∀ d : Dd, cntD (ddD d) + headS (ddD d) = d.sz
  | .set k x => by
    show ((0 + 0) + ((0 + 0) + ((cntD (ptD x) + headS (ptD x)) + 0))) + 1 = 1 + x.sz
    rw [pt_cnt x]; omega
  | .put k x => by
    show ((0 + 0) + ((0 + 0) + ((cntD (ptD x) + headS (ptD x)) + 0))) + 1 = 1 + x.sz
    rw [pt_cnt x]; omega
  | .say x => by
    show ((0 + 0) + ((cntD (ptD x) + headS (ptD x)) + 0)) + 1 = 1 + x.sz
    rw [pt_cnt x]; omega
  | .iff x b c => by
    show ((0 + 0) + ((cntD (ptD x) + headS (ptD x)) + ((cntAll (ddsD b) + headS (.tuple (ddsD b))) + ((cntAll (ddsD c) + headS (.tuple (ddsD c))) + 0)))) + 1 = 1 + x.sz + szDs b + szDs c
    rw [pt_cnt x, dds_cnt b, dds_cnt c, dds_head, dds_head]; omega
  | .again x b => by
    show ((0 + 0) + ((cntD (ptD x) + headS (ptD x)) + ((cntAll (ddsD b) + headS (.tuple (ddsD b))) + 0))) + 1 = 1 + x.sz + szDs b
    rw [pt_cnt x, dds_cnt b, dds_head]; omega
  | .call f xs k => by
    show ((0 + 0) + ((0 + 0) + ((cntAll (ptsD xs) + headS (.tuple (ptsD xs))) + ((0 + 0) + 0)))) + 1 = 1 + szPs xs
    rw [pts_cnt xs, pts_head]; omega
  | .ret x => by
    show ((0 + 0) + ((cntD (ptD x) + headS (ptD x)) + 0)) + 1 = 1 + x.sz
    rw [pt_cnt x]; omega
theorem dds_cnt : ∀ b : List Dd, cntAll (ddsD b) = szDs b
  | [] => rfl
  | d :: r => by
    show (cntD (ddD d) + headS (ddD d)) + cntAll (ddsD r) = d.sz + szDs r
    rw [dd_cnt d, dds_cnt r]
end
/-! depths -/
theorem pt_depth : ∀ p : Pt, (ptD p).depth ≤ p.dp
  | .num n => Nat.le_refl _
  | .name n => Nat.le_refl _
  | .cell n => Nat.le_refl _
  | .two o a b => by
    have h1 := pt_depth a
    have h2 := pt_depth b
    show max 0 (max (ptD a).depth (max (ptD b).depth 0)) + 1 ≤ 1 + max a.dp b.dp
    omega
theorem pts_depth : ∀ p : List Pt, PyData.depthAll (ptsD p) ≤ dpPs p
  | [] => Nat.le_refl _
  | p :: r => by
    have h1 := pt_depth p
    have h2 := pts_depth r
    show max (ptD p).depth (PyData.depthAll (ptsD r)) ≤ max p.dp (dpPs r)
    omega
mutual
theorem dd_depth : ∀ d : Dd, (ddD d).depth ≤ 2 * d.dp
  | .set k x => by
    have := pt_depth x
    show max 0 (max 0 (max (ptD x).depth 0)) + 1 ≤ 2 * (1 + x.dp)
    omega
  | .put k x => by
    have := pt_depth x
    show max 0 (max 0 (max (ptD x).depth 0)) + 1 ≤ 2 * (1 + x.dp)
    omega
  | .say x => by
    have := pt_depth x
    show max 0 (max (ptD x).depth 0) + 1 ≤ 2 * (1 + x.dp)
    omega
  | .iff x b c => by
    have := pt_depth x
    have := dds_depth b
    have := dds_depth c
    show max 0 (max (ptD x).depth (max (PyData.depthAll (ddsD b) + 1) (max (PyData.depthAll (ddsD c) + 1) 0))) + 1 ≤ 2 * (1 + max x.dp (max (dpDs b) (dpDs c)))
    omega
  | .again x b => by
    have := pt_depth x
    have := dds_depth b
    show max 0 (max (ptD x).depth (max (PyData.depthAll (ddsD b) + 1) 0)) + 1 ≤ 2 * (1 + max x.dp (dpDs b))
    omega
  | .call f xs k => by
    have := pts_depth xs
    show max 0 (max 0 (max (PyData.depthAll (ptsD xs) + 1) (max 0 0))) + 1 ≤ 2 * (1 + dpPs xs)
    omega
  | .ret x => by
    have := pt_depth x
    show max 0 (max (ptD x).depth 0) + 1 ≤ 2 * (1 + x.dp)
    omega
theorem dds_depth : ∀ b : List Dd, PyData.depthAll (ddsD b) ≤ 2 * dpDs b
  | [] => Nat.le_refl _
  | d :: r => by
    have := dd_depth d
    have := dds_depth r
    show max (ddD d).depth (PyData.depthAll (ddsD r)) ≤ 2 * max d.dp (dpDs r)
    omega
end
/-! laid -/
theorem pt_lay : ∀ p : Pt, (ptD p).canLay0 = true
  | .num n => by show (PyData.canLay0 (.str "num") && (true && true)) = true; decide +kernel
  | .name n => by show (PyData.canLay0 (.str "name") && (true && true)) = true; decide +kernel
  | .cell n => by show (PyData.canLay0 (.str "cell") && (true && true)) = true; decide +kernel
  | .two o a b => by
    show (PyData.canLay0 (.str o.str) && ((ptD a).canLay0 && ((ptD b).canLay0 && true))) = true
    rw [pt_lay a, pt_lay b]
    cases o <;> decide +kernel
theorem pts_lay : ∀ p : List Pt, PyData.canLayAll0 (ptsD p) = true
  | [] => rfl
  | p :: r => by show ((ptD p).canLay0 && PyData.canLayAll0 (ptsD r)) = true; rw [pt_lay p, pts_lay r]; rfl
mutual
theorem dd_lay : ∀ d : Dd, (ddD d).canLay0 = true
  | .set k x => by show (PyData.canLay0 (.str "set") && (true && ((ptD x).canLay0 && true))) = true; rw [pt_lay x]; decide +kernel
  | .put k x => by show (PyData.canLay0 (.str "put") && (true && ((ptD x).canLay0 && true))) = true; rw [pt_lay x]; decide +kernel
  | .say x => by show (PyData.canLay0 (.str "say") && ((ptD x).canLay0 && true)) = true; rw [pt_lay x]; decide +kernel
  | .iff x b c => by show (PyData.canLay0 (.str "if") && ((ptD x).canLay0 && (PyData.canLayAll0 (ddsD b) && (PyData.canLayAll0 (ddsD c) && true)))) = true; rw [pt_lay x, dds_lay b, dds_lay c]; decide +kernel
  | .again x b => by show (PyData.canLay0 (.str "again") && ((ptD x).canLay0 && (PyData.canLayAll0 (ddsD b) && true))) = true; rw [pt_lay x, dds_lay b]; decide +kernel
  | .call f xs k => by show (PyData.canLay0 (.str "call") && (true && (PyData.canLayAll0 (ptsD xs) && (true && true)))) = true; rw [pts_lay xs]; decide +kernel
  | .ret x => by show (PyData.canLay0 (.str "return") && ((ptD x).canLay0 && true)) = true; rw [pt_lay x]; decide +kernel
theorem dds_lay : ∀ b : List Dd, PyData.canLayAll0 (ddsD b) = true
  | [] => rfl
  | d :: r => by show ((ddD d).canLay0 && PyData.canLayAll0 (ddsD r)) = true; rw [dd_lay d, dds_lay r]; rfl
end
theorem fns_lay : ∀ b : List Fn, PyData.canLayAll0 (fnsD b) = true
  | [] => rfl
  | d :: r => by show ((true && (true && (PyData.canLayAll0 (ddsD d.body) && true))) && PyData.canLayAll0 (fnsD r)) = true; rw [dds_lay d.body, fns_lay r]; rfl
theorem prog_lay (p : Prog) : (progD p).canLay0 = true := by
  show (PyData.canLayAll0 (intsD p.cells) && (PyData.canLayAll0 (fnsD p.funs) && (PyData.canLayAll0 (intsD (p.hands.map fun n => ((n : Nat) : Int))) && true))) = true
  rw [ints_lay, fns_lay, ints_lay]; rfl
theorem ints_depth : ∀ xs : List Int, PyData.depthAll (intsD xs) = 0
  | [] => rfl
  | x :: r => by show max 0 (PyData.depthAll (intsD r)) = 0; rw [ints_depth r]; rfl
theorem fns_depth {n : Nat} : ∀ {b : List Fn}, (∀ f ∈ b, dpDs f.body ≤ n) → PyData.depthAll (fnsD b) ≤ 2 * n + 2
  | [], _ => Nat.zero_le _
  | d :: r, h => by
    have h1 := h d (List.mem_cons_self ..)
    have h2 := fns_depth (n := n) (b := r) fun f hf => h f (List.mem_cons_of_mem _ hf)
    have h3 := dds_depth d.body
    show max (max 0 (max 0 (max (PyData.depthAll (ddsD d.body) + 1) 0)) + 1) (PyData.depthAll (fnsD r)) ≤ 2 * n + 2
    omega
theorem prog_flat {p : Prog} (W : p.Wf) : Flat 20 (progD p) := by
  refine ⟨prog_lay p, ?_⟩
  have := fns_depth (n := 8) W.deep
  show max (PyData.depthAll (intsD p.cells) + 1) (max (PyData.depthAll (fnsD p.funs) + 1) (max (PyData.depthAll (intsD (p.hands.map fun n => ((n : Nat) : Int))) + 1) 0)) + 1 ≤ 20
  rw [ints_depth, ints_depth]; omega
/-! data of ints, texts and tuples alone -/
mutual
def okD : PyData → Bool
  | .int _ => true
  | .str _ => true
  | .tuple xs => okAll xs
  | _ => false
def okAll : List PyData → Bool
  | [] => true
  | x :: r => okD x && okAll r
end
mutual
theorem Dp.imm {K : PySem.W.Frag} {H H' : Hp} (i : Imm H H') : ∀ (d : PyData) {v : V}, okD d = true → Dp K H v d → Dp K H' v d
  | .int _, _, _, .int _ => .int _
  | .str _, _, _, .str _ => .str _
  | .tuple xs, _, o, .tup h hs => .tup (i.t h) (DpAll.imm i xs o hs)
theorem DpAll.imm {K : PySem.W.Frag} {H H' : Hp} (i : Imm H H') : ∀ (ds : List PyData) {vs : List V}, okAll ds = true → DpAll K H vs ds → DpAll K H' vs ds
  | [], _, _, .nil => .nil
  | d :: r, _, o, .cons h hs => .cons (Dp.imm i d (Bool.and_eq_true_iff.mp o).1 h) (DpAll.imm i r (Bool.and_eq_true_iff.mp o).2 hs)
end
theorem DpAll.get {K : PySem.W.Frag} {H : Hp} : ∀ {vs : List V} {ds : List PyData} {i : Nat} {x : V}, DpAll K H vs ds → vs[i]? = some x → ∃ d, ds[i]? = some d ∧ Dp K H x d
  | _, _, i, x, .nil, e => by simp at e
  | _, _, 0, x, .cons (d := d) h hs, e => by simp at e; subst e; exact ⟨d, rfl, h⟩
  | _, _, i + 1, x, .cons h hs, e => DpAll.get (i := i) hs (by simpa using e)
theorem DpAll.len {K : PySem.W.Frag} {H : Hp} : ∀ {vs : List V} {ds : List PyData}, DpAll K H vs ds → vs.length = ds.length
  | _, _, .nil => rfl
  | _, _, .cons h hs => congrArg (· + 1) (DpAll.len hs)
theorem okAll.get : ∀ {ds : List PyData} {i : Nat} {d : PyData}, okAll ds = true → ds[i]? = some d → okD d = true
  | [], i, d, _, e => by simp at e
  | x :: r, 0, d, o, e => by simp at e; subst e; exact (Bool.and_eq_true_iff.mp o).1
  | x :: r, i + 1, d, o, e => okAll.get (i := i) (Bool.and_eq_true_iff.mp o).2 (by simpa using e)
theorem depth_get : ∀ {ds : List PyData} {i : Nat} {d : PyData}, ds[i]? = some d → d.depth ≤ PyData.depthAll ds
  | [], i, d, e => by simp at e
  | x :: r, 0, d, e => by simp at e; subst e; exact Nat.le_max_left _ _
  | x :: r, i + 1, d, e => Nat.le_trans (depth_get (i := i) (by simpa using e)) (Nat.le_max_right _ _)
theorem cnt_snoc : ∀ (xs : List PyData) (x : PyData), cntAll (xs ++ [x]) = cntAll xs + (cntD x + headS x)
  | [], x => by show (cntD x + headS x) + 0 = 0 + (cntD x + headS x); omega
  | y :: r, x => by show (cntD y + headS y) + cntAll (r ++ [x]) = (cntD y + headS y) + cntAll r + (cntD x + headS x); rw [cnt_snoc r x]; omega
theorem pt_ok : ∀ p : Pt, okD (ptD p) = true
  | .num n => rfl
  | .name n => rfl
  | .cell n => rfl
  | .two o a b => by show (true && (okD (ptD a) && (okD (ptD b) && true))) = true; rw [pt_ok a, pt_ok b]; rfl
theorem pts_ok : ∀ p : List Pt, okAll (ptsD p) = true
  | [] => rfl
  | p :: r => by show (okD (ptD p) && okAll (ptsD r)) = true; rw [pt_ok p, pts_ok r]; rfl
mutual
theorem dd_ok : ∀ d : Dd, okD (ddD d) = true
  | .set k x => by show (true && (true && (okD (ptD x) && true))) = true; rw [pt_ok x]; rfl
  | .put k x => by show (true && (true && (okD (ptD x) && true))) = true; rw [pt_ok x]; rfl
  | .say x => by show (true && (okD (ptD x) && true)) = true; rw [pt_ok x]; rfl
  | .iff x b c => by show (true && (okD (ptD x) && (okAll (ddsD b) && (okAll (ddsD c) && true)))) = true; rw [pt_ok x, dds_ok b, dds_ok c]; rfl
  | .again x b => by show (true && (okD (ptD x) && (okAll (ddsD b) && true))) = true; rw [pt_ok x, dds_ok b]; rfl
  | .call f xs k => by show (true && (true && (okAll (ptsD xs) && (true && true)))) = true; rw [pts_ok xs]; rfl
  | .ret x => by show (true && (okD (ptD x) && true)) = true; rw [pt_ok x]; rfl
theorem dds_ok : ∀ b : List Dd, okAll (ddsD b) = true
  | [] => rfl
  | d :: r => by show (okD (ddD d) && okAll (ddsD r)) = true; rw [dd_ok d, dds_ok r]; rfl
end
section
variable {K : PySem.W.Frag} {H : Hp}
theorem DdsAt.app : ∀ {p q : List Dd} {v u : List V}, DdsAt K H p v → DdsAt K H q u → DdsAt K H (p ++ q) (v ++ u)
  | [], q, v, u, h, h2 => by rw [show v = [] from h]; exact h2
  | p :: r, q, v, u, ⟨a, t, e, h, h1⟩, h2 => ⟨a, t ++ u, by rw [e]; rfl, h, DdsAt.app h1 h2⟩
theorem PtsAt.app : ∀ {p q : List Pt} {v u : List V}, PtsAt K H p v → PtsAt K H q u → PtsAt K H (p ++ q) (v ++ u)
  | [], q, v, u, h, h2 => by rw [show v = [] from h]; exact h2
  | p :: r, q, v, u, ⟨a, t, e, h, h1⟩, h2 => ⟨a, t ++ u, by rw [e]; rfl, h, PtsAt.app h1 h2⟩
theorem FnsAt.app : ∀ {p q : List Fn} {v u : List V}, FnsAt K H p v → FnsAt K H q u → FnsAt K H (p ++ q) (v ++ u)
  | [], q, v, u, h, h2 => by rw [show v = [] from h]; exact h2
  | p :: r, q, v, u, ⟨a, t, e, h, h1⟩, h2 => ⟨a, t ++ u, by rw [e]; rfl, h, FnsAt.app h1 h2⟩
end
theorem wfDs_app {n c : Nat} {ps : List Nat} : ∀ {b e : List Dd}, wfDs n c ps b = true → wfDs n c ps e = true → wfDs n c ps (b ++ e) = true
  | [], e, _, h => h
  | d :: r, e, h1, h2 => by
    obtain ⟨a, b⟩ := Bool.and_eq_true_iff.mp h1
    exact Bool.and_eq_true_iff.mpr ⟨a, wfDs_app b h2⟩
theorem dpDs_app : ∀ {b e : List Dd}, dpDs (b ++ e) = max (dpDs b) (dpDs e)
  | [], e => (Nat.zero_max _).symm
  | d :: r, e => by show max d.dp (dpDs (r ++ e)) = max (max d.dp (dpDs r)) (dpDs e); rw [dpDs_app, Nat.max_assoc]
theorem wfPs_app {n c : Nat} : ∀ {b e : List Pt}, wfPs n c b = true → wfPs n c e = true → wfPs n c (b ++ e) = true
  | [], e, _, h => h
  | d :: r, e, h1, h2 => by
    obtain ⟨a, b⟩ := Bool.and_eq_true_iff.mp h1
    exact Bool.and_eq_true_iff.mpr ⟨a, wfPs_app b h2⟩
theorem dpPs_app : ∀ {b e : List Pt}, dpPs (b ++ e) = max (dpPs b) (dpPs e)
  | [], e => (Nat.zero_max _).symm
  | d :: r, e => by show max d.dp (dpPs (r ++ e)) = max (max d.dp (dpPs r)) (dpPs e); rw [dpPs_app, Nat.max_assoc]
end SD
set_option Elab.async false
set_option linter.all false
set_option maxRecDepth 100000
set_option maxHeartbeats 4000000
namespace SD
--@L law_k07_whole_changes_are_as_told
open PySem PySem.Spec PyProof.Rows L2
/-! ### need_number, put, change -/
def sp_need_number (K : PySem.W.Frag) (w : World) : Sp := fun vs H Q _ => ∃ i : Int, vs = [.int i] ∧ Sm i ∧ Q .non H
abbrev n_f_need_number : List Str := ["number"]
def t_f_need_number (K : PySem.W.Frag) (w : World)  : TS :=
 (tIfS (tOr (tNot (tB (tCall (sp_is_number K w) [] E0 (tCons (tVar 0) tNil)))) (tNot (tTest (tChain (rI0 fun i j => .bl (decide (i ≤ j))) (rI0 fun i j => .bl (decide (i < j))) (tC (.int 0)) (tVar 0) (tC (.int 10007)))))) tNever tNext)
theorem st_f_need_number {x0 : V} : start n_f_need_number [x0] = [some x0] := rfl
theorem pu_f_need_number {K : PySem.W.Frag} {w : World} (vs : List V) (H : Hp) (Q : VK) (E : XK) (h : sp_need_number K w vs H Q E) : t_f_need_number K w { nx := fun _ H' => Q .non H', rt := Q } (start n_f_need_number vs) H := by
  obtain ⟨i, rfl, ⟨g1, g2⟩, q⟩ := h
  have g2 : i < 10007 := g2
  refine ⟨_, rfl, _, rfl, _, rfl, ?_⟩
  show if (!true) = true then _ else _
  exact iteF ⟨_, rfl, _, _, rfl, rfl, _, rfl, iteDT (by omega) ⟨_, _, rfl, rfl, _, rfl, iteNF (by omega) q⟩⟩
def Wd.put (w : Wd) (c : Nat) (v : Int) : Wd := { w with M := { w.M with held := w.M.held.set c v } }
def sp_Watched_put (K : PySem.W.Frag) (w : World) : Sp := fun vs H Q _ => ∃ (G : WG) (W : Wd) (R : List (Addr × HO)) (c : Nat) (v : Int), vs = [.ref G.w, .int (c : Nat), .int v] ∧ Holds H (wC K G W ++ R) ∧ WAt K H G W ∧ c < W.M.held.length ∧ Sm v ∧
  ∀ H', Imm H H' → Holds H' (wC K G (W.put c v) ++ R) → WAt K H' G (W.put c v) → Q .non H'
abbrev n_m_Watched_put : List Str := ["self", "cell", "number"]
def t_m_Watched_put (K : PySem.W.Frag) (w : World)  : TS :=
 (tSeq (tIfS (tOr (tNot (tB (tCall (sp_is_number K w) [] E0 (tCons (tVar 1) tNil)))) (tNot (tTest (tChain (rI0 fun i j => .bl (decide (i ≤ j))) (rI0 fun i j => .bl (decide (i < j))) (tC (.int 0)) (tVar 1) (tCB (rLenS' K) (tCons (xfMachine_held K (xfWatched_machine K (tVar 0))) tNil)))))) tNever tNext)
 (tSeq (tDrop (tCall (sp_need_number K w) [] E0 (tCons (tVar 2) tNil)))
 (tAsg (tVar 2) (gSub (xfMachine_held K (xfWatched_machine K (tVar 0))) (tVar 1) rSetL))))
theorem st_m_Watched_put {x0 x1 x2 : V} : start n_m_Watched_put [x0, x1, x2] = [some x0, some x1, some x2] := rfl
theorem pu_m_Watched_put {K : PySem.W.Frag} {w : World} (vs : List V) (H : Hp) (Q : VK) (E : XK) (h : sp_Watched_put K w vs H Q E) : t_m_Watched_put K w { nx := fun _ H' => Q .non H', rt := Q } (start n_m_Watched_put vs) H := by
  obtain ⟨G, W, R, c, v, rfl, hH, hA, hc, hv, q⟩ := h
  have hhe := hH.tail.tail.tail.head
  refine ⟨_, rfl, _, rfl, _, rfl, ?_⟩
  show if (!true) = true then _ else _
  refine iteF ?_
  refine ⟨_, rfl, _, _, rfl, rfl, _, rfl, iteDT (by omega) ⟨_, rfl, G.w, G.dx, _, _, _, _, _, _, _, _, _, rfl, hH.head, G.g.m, G.g.dx, _, _, _, _, _, _, _, rfl, hH.tail.tail.head, _, _, rfl, .inl (SqL.of hhe), _, _, rfl, rfl, _, rfl, iteNF (by rw [List.length_map]; omega) ?_⟩⟩
  refine ⟨_, rfl, v, rfl, hv, ?_⟩
  refine ⟨_, rfl, _, rfl, G.w, G.dx, _, _, _, _, _, _, _, _, _, rfl, hH.head, G.g.m, G.g.dx, _, _, _, _, _, _, _, rfl, hH.tail.tail.head, _, rfl, G.g.he, _, _, c, rfl, rfl, hhe, ixN_lt (by rw [List.length_map]; exact hc), ?_⟩
  have e : (W.M.held.map V.int).set c (.int v) = (W.put c v).M.held.map V.int := List.map_set.symm
  rw [e]
  have h3 := hH.set 3 (o' := .lst ((W.put c v).M.held.map V.int)) rfl
  have i3 : Imm H (upd H G.g.he (.lst ((W.put c v).M.held.map V.int))) := Imm.upd hhe rfl
  have A := hA.mono i3
  exact q _ i3 h3 ⟨A.p, A.f, ⟨A.M.bf, A.M.b, A.M.hf, A.M.h, A.M.sf, A.M.s, A.M.t⟩, A.s, A.g⟩
/-! ### change -/
theorem frs_split {K : PySem.W.Frag} {H : Hp} : ∀ {gs : List FG} {fs : List Fr} {j : Nat} {g : FG} {f : Fr}, gs[j]? = some g → fs[j]? = some f → FrsAt K H gs fs → ∃ Rest,
    (frsC K gs fs).Perm (frC K g f ++ Rest) ∧ (∀ f', (frsC K gs (fs.set j f')).Perm (frC K g f' ++ Rest)) ∧ ∀ H' f', Imm H H' → f'.todo = f.todo → FrsAt K H' gs (fs.set j f')
  | [], _, j, g, f, e, _, _ => by simp at e
  | _ :: _, [], j, g, f, _, e, _ => by simp at e
  | x :: r, y :: s, 0, g, f, e1, e2, ⟨h1, h2⟩ => by
    simp at e1 e2; subst e1; subst e2
    exact ⟨frsC K r s, .refl _, fun f' => .refl _, fun H' f' i e => ⟨by rw [e]; exact h1.mono i, h2.mono i⟩⟩
  | x :: r, y :: s, j + 1, g, f, e1, e2, ⟨h1, h2⟩ => by
    obtain ⟨Rest, a1, a2, a3⟩ := frs_split (j := j) (by simpa using e1) (by simpa using e2) h2
    refine ⟨frC K x y ++ Rest, ?_, fun f' => ?_, fun H' f' i e => ⟨h1.mono i, a3 H' f' i e⟩⟩
    · refine (List.Perm.append_left (frC K x y) a1).trans ?_
      rw [← List.append_assoc, ← List.append_assoc]
      exact List.Perm.append_right _ List.perm_append_comm
    · refine (List.Perm.append_left (frC K x y) (a2 f')).trans ?_
      rw [← List.append_assoc, ← List.append_assoc]
      exact List.Perm.append_right _ List.perm_append_comm
theorem chg_perm {A B C D E hl x na : Addr × HO} {hc Rest fc tl Rest2 R : List (Addr × HO)} (a3 : hc.Perm (hl :: fc ++ Rest)) (b1 : fc.Perm (x :: na :: tl ++ Rest2)) :
    (A :: B :: C :: D :: E :: hc ++ R).Perm (na :: ([A, B, C, D, E, hl, x] ++ (tl ++ Rest2 ++ Rest ++ R))) := by
  have e1 : (hc ++ R).Perm (hl :: x :: na :: (tl ++ Rest2 ++ Rest ++ R)) := (List.Perm.append_right R a3).trans (((b1.append_right Rest).append_right R).cons hl)
  exact (((((e1.cons E).cons D).cons C).cons B).cons A).trans (List.perm_middle (l₁ := [A, B, C, D, E, hl, x]))
def Wd.chg (w : Wd) (k : Nat) (fs : List Fr) (deep : Nat) (f : Fr) (n : Nat) (v : Int) : Wd := { w with M := { w.M with hands := w.M.hands.set k (fs.set deep { f with names := f.names.set n v }) } }
def sp_Watched_change (K : PySem.W.Frag) (w : World) : Sp := fun vs H Q _ => ∃ (G : WG) (W : Wd) (R : List (Addr × HO)) (k deep : Nat) (fs : List Fr) (f : Fr) (n : Nat) (v : Int), vs = [.ref G.w, .int (k : Nat), .int (deep : Nat), .int (n : Nat), .int v] ∧ Holds H (wC K G W ++ R) ∧ WAt K H G W ∧ W.M.hands[k]? = some fs ∧ fs[deep]? = some f ∧ n < f.names.length ∧ Sm v ∧
  ∀ H', Imm H H' → Holds H' (wC K G (W.chg k fs deep f n v) ++ R) → WAt K H' G (W.chg k fs deep f n v) → Q .non H'
abbrev n_m_Watched_change : List Str := ["self", "hand", "deep", "name", "number", "names"]
def t_m_Watched_change (K : PySem.W.Frag) (w : World)  : TS :=
 (tSeq (tAsg (xfFrame_names K (tMeth (He.ga K "Watched") "frame" (sp_Watched_frame K w) [] E0 (tVar 0) (tCons (tVar 1) (tCons (tVar 2) tNil)))) (gName 5))
 (tSeq (tIfS (tOr (tNot (tB (tCall (sp_is_number K w) [] E0 (tCons (tVar 3) tNil)))) (tNot (tTest (tChain (rI0 fun i j => .bl (decide (i ≤ j))) (rI0 fun i j => .bl (decide (i < j))) (tC (.int 0)) (tVar 3) (tCB (rLenS' K) (tCons (tVar 5) tNil)))))) tNever tNext)
 (tSeq (tDrop (tCall (sp_need_number K w) [] E0 (tCons (tVar 4) tNil)))
 (tAsg (tVar 4) (gSub (tVar 5) (tVar 3) rSetL)))))
theorem st_m_Watched_change {x0 x1 x2 x3 x4 : V} : start n_m_Watched_change [x0, x1, x2, x3, x4] = [some x0, some x1, some x2, some x3, some x4, none] := rfl
theorem pu_m_Watched_change {K : PySem.W.Frag} {w : World} (vs : List V) (H : Hp) (Q : VK) (E : XK) (h : sp_Watched_change K w vs H Q E) : t_m_Watched_change K w { nx := fun _ H' => Q .non H', rt := Q } (start n_m_Watched_change vs) H := by
  obtain ⟨G, W, R, k, deep, fs, f, n, v, rfl, hH, hA, e, ef, hn, hv, q⟩ := h
  obtain ⟨hl, gs, Rest, a1, a2, a3, a4, a5⟩ := hands_split hA.M.s e
  have eat : G.g.hsv[k]? = some (.ref hl) := by rw [MG.hsv, List.getElem?_map, a1]; rfl
  have hd : deep < gs.length := by rw [a2.len]; exact (List.getElem?_eq_some_iff.mp ef).1
  have eg : gs[deep]? = some gs[deep] := List.getElem?_eq_getElem hd
  generalize gs[deep] = g at eg
  obtain ⟨Rest2, b1, b2, b3⟩ := frs_split eg ef a2
  have h2 := hH.tail.tail.tail.tail.tail.perm (List.Perm.append_right R a3)
  obtain ⟨m1, m2⟩ := frsC_get (K := K) eg ef
  have w1 := h2.get (List.mem_append_left R (List.mem_append_left Rest (List.mem_cons_of_mem (hl, HO.lst (hlV gs)) m1)))
  have w2 := h2.get (List.mem_append_left R (List.mem_append_left Rest (List.mem_cons_of_mem (hl, HO.lst (hlV gs)) m2)))
  have es : G.g.hls.set k (hl, gs) = G.g.hls := by
    refine List.ext_getElem? fun i => ?_
    rw [List.getElem?_set]
    split
    · rename_i h; subst h; rw [if_pos (List.getElem?_eq_some_iff.mp a1).1, a1]
    · rfl
  refine ⟨_, rfl, G.w, G.dx, _, rfl, hH.head, nmWatched_frame, _, rfl, _, rfl, ?_⟩
  refine ⟨G, W, R, k, deep, hl, gs, g, rfl, hH, hA, (List.getElem?_eq_some_iff.mp e).1, eat, h2.head, eg, ?_⟩
  refine ⟨_, _, _, _, _, _, rfl, w1, ?_⟩
  refine ⟨_, rfl, _, rfl, _, rfl, ?_⟩
  show if (!true) = true then _ else _
  refine iteF ?_
  refine ⟨_, rfl, _, _, rfl, rfl, _, rfl, iteDT (by omega) ⟨_, rfl, _, _, rfl, .inl (SqL.of w2), _, _, rfl, rfl, _, rfl, iteNF (by rw [List.length_map]; omega) ?_⟩⟩
  refine ⟨_, rfl, v, rfl, hv, ?_⟩
  refine ⟨_, rfl, _, rfl, _, rfl, g.na, _, _, n, rfl, rfl, w2, ixN_lt (by rw [List.length_map]; exact hn), ?_⟩
  have e1 : (f.names.map V.int).set n (.int v) = (f.names.set n v).map V.int := List.map_set.symm
  rw [e1]
  have p1 : (wC K G W ++ R).Perm _ := chg_perm a3 b1
  have p2 : (wC K G (W.chg k fs deep f n v) ++ R).Perm _ := chg_perm (by have := a4 gs (fs.set deep { f with names := f.names.set n v }); rw [es] at this; exact this) (b2 { f with names := f.names.set n v })
  have i3 : Imm H (upd H g.na (.lst ((f.names.set n v).map V.int))) := Imm.upd w2 rfl
  have h3 := ((hH.perm p1).upd (o' := .lst ((f.names.set n v).map V.int))).perm p2.symm
  have A := hA.mono i3
  refine q _ i3 h3 ⟨A.p, A.f, ⟨A.M.bf, A.M.b, A.M.hf, A.M.h, A.M.sf, ?_, A.M.t⟩, A.s, A.g⟩
  have := a5 _ gs (fs.set deep { f with names := f.names.set n v }) i3 (b3 _ _ i3 rfl)
  rw [es] at this
  exact this
end SD
set_option Elab.async false
set_option linter.all false
set_option maxRecDepth 100000
set_option maxHeartbeats 4000000
namespace SD
open PySem PySem.Spec PyProof.Rows L2
local macro_rules | `(tactic| walk_at "s1") => `(tactic| first
  | with_reducible refine w_nT ?_
  | with_reducible refine w_nF ?_
  | with_reducible refine w_frzS ?_
  | with_reducible refine w_seq ?_
  | with_reducible refine w_next ?_
  | with_reducible refine w_asg ?_
  | with_reducible refine w_drop ?_
  | with_reducible refine w_ret ?_
  | with_reducible refine w_retN ?_
  | with_reducible refine w_ifs ?_
  | with_reducible refine w_par ?_
  | with_reducible refine w_c ?_
  | with_reducible refine w_nil ?_
  | with_reducible refine w_cons ?_
  | with_reducible refine w_op ?_
  | with_reducible refine w_un ?_
  | with_reducible refine w_rI0 ?_
  | with_reducible refine w_rU ?_
  | with_reducible refine w_test ?_
  | with_reducible refine w_b ?_
  | with_reducible refine w_bl ?_
  | with_reducible refine w_and ?_
  | with_reducible refine w_or ?_
  | with_reducible refine w_not ?_
  | with_reducible refine w_andV ?_
  | with_reducible refine w_orV ?_
  | with_reducible refine w_notV ?_
  | with_reducible refine w_if ?_
  | with_reducible refine w_chain ?_
  | with_reducible refine w_eqI ?_
  | with_reducible refine w_neI ?_
  | with_reducible refine w_eqS ?_
  | with_reducible refine w_neS ?_
  | with_reducible refine w_pcons ?_
  | with_reducible refine w_pnil ?_
  | with_reducible refine w_dget ?_
  | with_reducible refine w_dget2 ?_
  | with_reducible refine w_dput ?_
  | with_reducible refine w_neB ?_
  | with_reducible refine w_eqB ?_
  | with_reducible refine w_isNb ?_
  | with_reducible refine w_isNs ?_
  | with_reducible refine w_min ?_
  | with_reducible refine w_max ?_
  | with_reducible refine w_isNn ?_
  | with_reducible refine w_isNi ?_
  | with_reducible refine w_isNr ?_
  | with_reducible refine w_notNn ?_
  | with_reducible refine w_notNi ?_
  | with_reducible refine w_notNr ?_
  | with_reducible refine w_call ?_
  | with_reducible refine w_cb ?_
  | with_reducible refine w_meth ?_
  | with_reducible refine w_make ?_
  | with_reducible refine w_tup ?_
  | with_reducible refine w_lst ?_
  | with_reducible refine w_int1b ?_
  | with_reducible refine w_int1 ?_
  | with_reducible refine w_gNil ?_
  | with_reducible refine w_gCons ?_
  | with_reducible refine w_gSub ?_
  | with_reducible refine w_bm ?_
  | with_reducible refine w_sl ?_
  | with_reducible refine w_part ?_
  | with_reducible refine w_partI ?_
  | with_reducible refine w_noPart ?_
  | with_reducible refine w_for ?_
  | with_reducible refine w_lc ?_
  | with_reducible refine w_rng1 ?_
  | with_reducible refine w_iList ?_
  | with_reducible refine w_iTup ?_
  | with_reducible refine w_break ?_
  | with_reducible refine w_cont ?_
  | ((with_reducible refine' w_var ?h ?_); (case h => exact rfl))
  | ((with_reducible refine' w_gName ?h ?_); (case h => (simp only [wipe, List.set]; rfl)))
  | ((with_reducible refine' w_par2 ?h ?_); (case h => (simp only [wipe, List.set]; rfl)))
  | ((with_reducible refine' w_mod ?h ?_); (case h => omega))
  | ((with_reducible refine' w_mul ?h ?_); (case h => omega))
  | ((with_reducible refine' w_rng1I ?h ?_); (case h => omega))
  | with_reducible refine iteT ?_
  | with_reducible refine iteF ?_
  | ((with_reducible refine' iteDT ?h ?_); (case h => omega))
  | ((with_reducible refine' iteDF ?h ?_); (case h => omega))
  | ((with_reducible refine' iteNT ?h ?_); (case h => omega))
  | ((with_reducible refine' iteNF ?h ?_); (case h => omega))
  | ((with_reducible refine' iteDT ?h ?_); (case h => decide +kernel))
  | ((with_reducible refine' iteDF ?h ?_); (case h => decide +kernel))
  | ((with_reducible refine' iteNT ?h ?_); (case h => decide +kernel))
  | ((with_reducible refine' iteNF ?h ?_); (case h => decide +kernel))
  | fail "stop")
local macro_rules | `(tactic| walk_at "st") => `(tactic| (walk_at "s1"; repeat' walk_at "s1"))
/-! ### _law_part -/
def sp_law_part (n : Nat) (K : PySem.W.Frag) (w : World) : Sp := fun vs H Q _ => ∃ (a d : Addr) (ns : List Int) (names cells deep : Nat) (L : List As), vs = [.ref d, .int (names : Nat), .int (cells : Nat), .int (deep : Nat)] ∧ deep < n ∧ 0 < cells ∧ cells ≤ 1000 ∧ names ≤ 1000 ∧
  Sep H (diceA K a d ns :: L) ∧ ∀ H' v p, Imm H H' → Sep H' (diceA K a d ns :: L) → PtAt K H' p v → p.wf names cells = true → p.dp ≤ deep + 1 → Q v H'
abbrev n_f_law_part : List Str := ["_law_d", "_law_names_here", "_law_cells", "_law_deep", "_law_way", "_law_number", "_law_word"]
def t_f_law_part (K : PySem.W.Frag) (w : World) (n : Nat) : TS :=
 (tSeq (tAsg (tCall (sp_law_next K w) [] E0 (tCons (tVar 0) (tCons (tC (.int 8)) tNil))) (gName 4))
 (tSeq (tIfS (tAnd (tTest (tOp (rI0 fun i j => .bl (decide (j < i))) (tVar 1) (tC (.int 0)))) (tTest (tOp (rI0 fun i j => .bl (decide (i < j))) (tVar 4) (tC (.int 3))))) (tRet (tTup (tCons (tC (.str "name")) (tCons (tCall (sp_law_next K w) [] E0 (tCons (tVar 0) (tCons (tVar 1) tNil))) tNil)))) tNext)
 (tSeq (tIfS (tOr (tTest (tOp rEq (tVar 3) (tC (.int 0)))) (tTest (tOp (rI0 fun i j => .bl (decide (i < j))) (tVar 4) (tC (.int 5))))) (tSeq (tAsg (tOp (rIxL K) (tLst (tCons (tCall (sp_law_next K w) [] E0 (tCons (tVar 0) (tCons (tC (.int 4)) tNil))) (tCons (tCall (sp_law_next K w) [] E0 (tCons (tVar 0) (tCons (tC (.int 10007)) tNil))) tNil))) (tCB rInt1 (tCons (tOp rEq (tCall (sp_law_next K w) [] E0 (tCons (tVar 0) (tCons (tC (.int 5)) tNil))) (tC (.int 4))) tNil))) (gName 5))
 (tRet (tOp (rIxL K) (tLst (tCons (tTup (tCons (tC (.str "num")) (tCons (tVar 5) tNil))) (tCons (tTup (tCons (tC (.str "cell")) (tCons (tCall (sp_law_next K w) [] E0 (tCons (tVar 0) (tCons (tVar 2) tNil))) tNil))) tNil))) (tOp (rI (fun _ j => 0 < j) fun i j => .int (i % j)) (tVar 4) (tC (.int 2)))))) tNext)
 (tSeq (tAsg (tOp (rIxL K) (tLst (tCons (tC (.str "add")) (tCons (tC (.str "take")) (tCons (tC (.str "times")) (tCons (tC (.str "less")) (tCons (tC (.str "same")) tNil)))))) (tCall (sp_law_next K w) [] E0 (tCons (tVar 0) (tCons (tC (.int 5)) tNil)))) (gName 6))
 (tRet (tTup (tCons (tVar 6) (tCons (tCall (sp_law_part n K w) [] E0 (tCons (tVar 0) (tCons (tVar 1) (tCons (tVar 2) (tCons (tOp (rI0 fun i j => .int (i - j)) (tVar 3) (tC (.int 1))) tNil))))) (tCons (tCall (sp_law_part n K w) [] E0 (tCons (tVar 0) (tCons (tVar 1) (tCons (tVar 2) (tCons (tOp (rI0 fun i j => .int (i - j)) (tVar 3) (tC (.int 1))) tNil))))) tNil)))))))))
theorem st_f_law_part {x0 x1 x2 x3 : V} : start n_f_law_part [x0, x1, x2, x3] = [some x0, some x1, some x2, some x3, none, none, none] := rfl
theorem pu_f_law_part {K : PySem.W.Frag} {w : World} (n : Nat) (vs : List V) (H : Hp) (Q : VK) (E : XK) (h : sp_law_part (n + 1) K w vs H Q E) : t_f_law_part K w n { nx := fun _ H' => Q .non H', rt := Q } (start n_f_law_part vs) H := by
  obtain ⟨a, d, ns, names, cells, deep, L, rfl, hd, hc, hc2, hn2, h0, q⟩ := h
  rw [st_f_law_part]
  unfold t_f_law_part
  walk_at "st"
  refine use_next h0 (by decide) (by decide) fun way H1 hw i1 h1 => ?_
  walk_at "st"
  refine w_andJ (decide ((way : Int) < 3)) (fun QB h => by walk_at "st"; exact h) ?_
  refine ite2 (fun c => ?_) fun c => ?_
  · have hn : 0 < names := by have := (Bool.and_eq_true_iff.mp c).1; have := of_decide_eq_true this; omega
    walk_at "st"
    refine use_next h1 (by omega) (by omega) fun r1 H2 hr1 i2 h2 => ?_
    walk_at "st"
    refine k_tup (K := K) h2 fun p1 H3 i3 h3 f3 => ?_
    exact q H3 _ (.name r1) (i1.trans (i2.trans i3)) h3 ⟨p1, rfl, f3⟩ (by simp [Pt.wf]; omega) (Nat.le_add_left _ _)
  replace q : ∀ (H' : Hp) (v : V) (p : Pt), Imm H1 H' → Sep H' (diceA K a d ns :: L) → PtAt K H' p v → Pt.wf names cells p = true → p.dp ≤ deep + 1 → Q v H' := fun H' v p i => q H' v p (i1.trans i)
  clear c
  walk_at "st"
  refine w_orJ (decide ((way : Int) < 5)) (fun QB h => by walk_at "st"; exact h) ?_
  refine ite2 (fun c => ?_) fun c => ?_
  · walk_at "st"
    refine use_next h1 (by decide) (by decide) fun r1 H2 hr1 i2 h2 => ?_
    walk_at "st"
    refine use_next h2 (by decide) (by decide) fun r2 H3 hr2 i3 h3 => ?_
    walk_at "st"
    refine k_lst h3 fun l1 H4 i4 h4 => ?_
    walk_at "st"
    refine use_next h4.swap (by decide) (by decide) fun r3 H5 hr3 i5 h5 => ?_
    walk_at "st"
    obtain ⟨num, hnum, hn0⟩ : ∃ num : Nat, atI [V.int (r1 : Nat), V.int (r2 : Nat)] (if decide (((r3 : Nat) : Int) = 4) = true then 1 else 0) = some (.int (num : Nat)) ∧ num < 10007 := by
      by_cases c : ((r3 : Nat) : Int) = 4
      · rw [decide_eq_true c]; exact ⟨r2, rfl, by omega⟩
      · rw [decide_eq_false c]; exact ⟨r1, rfl, by omega⟩
    refine w_ixL (SqL.of h5.swap.cell) hnum ?_
    have h5 : Sep H5 (diceA K a d ns :: L) := h5.swap.tail
    walk_at "st"
    refine k_tup (K := K) h5 fun p1 H6 i6 h6 f6 => ?_
    walk_at "st"
    refine use_next h6 (by omega) (by omega) fun r4 H7 hr4 i7 h7 => ?_
    walk_at "st"
    refine k_tup (K := K) h7 fun p2 H8 i8 h8 f8 => ?_
    walk_at "st"
    refine k_lst h8 fun l2 H9 i9 h9 => ?_
    walk_at "st"
    have i19 : Imm H1 H9 := i2.trans (i3.trans (i4.trans (i5.trans (i6.trans (i7.trans (i8.trans i9))))))
    have e2 : ((way : Nat) : Int) % 2 = 0 ∨ ((way : Nat) : Int) % 2 = 1 := by omega
    rcases e2 with e2 | e2
    · rw [e2]
      refine w_ixL (SqL.of h9.cell) (v := .ref p1) rfl ?_
      exact q H9 _ (.num (num : Nat)) i19 h9.tail ⟨p1, rfl, (i7.trans (i8.trans i9)).t f6⟩ (by simp [Pt.wf, REST]; omega) (Nat.le_add_left _ _)
    · rw [e2]
      refine w_ixL (SqL.of h9.cell) (v := .ref p2) rfl ?_
      exact q H9 _ (.cell r4) i19 h9.tail ⟨p2, rfl, i9.t f8⟩ (by simp [Pt.wf]; omega) (Nat.le_add_left _ _)
  have hdp : 0 < deep := by
    have : ¬ ((deep : Int) = 0) := fun e => c (by rw [decide_eq_true e]; rfl)
    omega
  walk_at "st"
  refine k_lst h1 fun l1 H2 i2 h2 => ?_
  walk_at "st"
  refine use_next h2.swap (by decide) (by decide) fun r1 H3 hr1 i3 h3 => ?_
  obtain ⟨o, ho⟩ : ∃ o : Op2, atI [V.str "add", V.str "take", V.str "times", V.str "less", V.str "same"] (r1 : Nat) = some (.str o.str) := by
    have : r1 = 0 ∨ r1 = 1 ∨ r1 = 2 ∨ r1 = 3 ∨ r1 = 4 := by omega
    rcases this with rfl | rfl | rfl | rfl | rfl
    · exact ⟨.add, rfl⟩
    · exact ⟨.take, rfl⟩
    · exact ⟨.times, rfl⟩
    · exact ⟨.less, rfl⟩
    · exact ⟨.same, rfl⟩
  refine w_ixL (SqL.of h3.swap.cell) ho ?_
  have h3 : Sep H3 (diceA K a d ns :: L) := h3.swap.tail
  walk_at "st"
  have ed : ((deep : Int) - 1) = ((deep - 1 : Nat) : Int) := by omega
  rw [ed]
  refine ⟨a, d, ns, names, cells, deep - 1, L, rfl, by omega, hc, hc2, hn2, h3, fun H4 v1 p1 i4 h4 f4 w4 d4 => ?_⟩
  walk_at "st"
  rw [ed]
  refine ⟨a, d, ns, names, cells, deep - 1, L, rfl, by omega, hc, hc2, hn2, h4, fun H5 v2 p2 i5 h5 f5 w5 d5 => ?_⟩
  walk_at "st"
  refine k_tup (K := K) h5 fun pt H6 i6 h6 f6 => ?_
  exact q H6 _ (.two o p1 p2) (i2.trans (i3.trans (i4.trans (i5.trans i6)))) h6 ⟨pt, _, _, rfl, f6, (f4.mono i5).mono i6, f5.mono i6⟩ (by simp only [Pt.wf, w4, w5]; rfl) (by simp only [Pt.dp]; omega)
end SD
set_option Elab.async false
set_option linter.all false
set_option maxRecDepth 100000
set_option maxHeartbeats 4000000
namespace SD
open PySem PySem.Spec PyProof.Rows L2
local macro_rules | `(tactic| walk_at "s1") => `(tactic| first
  | with_reducible refine w_nT ?_
  | with_reducible refine w_nF ?_
  | with_reducible refine w_frzS ?_
  | with_reducible refine w_seq ?_
  | with_reducible refine w_next ?_
  | with_reducible refine w_asg ?_
  | with_reducible refine w_drop ?_
  | with_reducible refine w_ret ?_
  | with_reducible refine w_retN ?_
  | with_reducible refine w_ifs ?_
  | with_reducible refine w_par ?_
  | with_reducible refine w_c ?_
  | with_reducible refine w_nil ?_
  | with_reducible refine w_cons ?_
  | with_reducible refine w_op ?_
  | with_reducible refine w_un ?_
  | with_reducible refine w_rI0 ?_
  | with_reducible refine w_rU ?_
  | with_reducible refine w_test ?_
  | with_reducible refine w_b ?_
  | with_reducible refine w_bl ?_
  | with_reducible refine w_and ?_
  | with_reducible refine w_or ?_
  | with_reducible refine w_not ?_
  | with_reducible refine w_andV ?_
  | with_reducible refine w_orV ?_
  | with_reducible refine w_notV ?_
  | with_reducible refine w_if ?_
  | with_reducible refine w_chain ?_
  | with_reducible refine w_eqI ?_
  | with_reducible refine w_neI ?_
  | with_reducible refine w_eqS ?_
  | with_reducible refine w_neS ?_
  | with_reducible refine w_pcons ?_
  | with_reducible refine w_pnil ?_
  | with_reducible refine w_dget ?_
  | with_reducible refine w_dget2 ?_
  | with_reducible refine w_dput ?_
  | with_reducible refine w_neB ?_
  | with_reducible refine w_eqB ?_
  | with_reducible refine w_isNb ?_
  | with_reducible refine w_isNs ?_
  | with_reducible refine w_min ?_
  | with_reducible refine w_max ?_
  | with_reducible refine w_isNn ?_
  | with_reducible refine w_isNi ?_
  | with_reducible refine w_isNr ?_
  | with_reducible refine w_notNn ?_
  | with_reducible refine w_notNi ?_
  | with_reducible refine w_notNr ?_
  | with_reducible refine w_call ?_
  | with_reducible refine w_cb ?_
  | with_reducible refine w_meth ?_
  | with_reducible refine w_make ?_
  | with_reducible refine w_tup ?_
  | with_reducible refine w_lst ?_
  | with_reducible refine w_int1b ?_
  | with_reducible refine w_int1 ?_
  | with_reducible refine w_gNil ?_
  | with_reducible refine w_gCons ?_
  | with_reducible refine w_gSub ?_
  | with_reducible refine w_bm ?_
  | with_reducible refine w_sl ?_
  | with_reducible refine w_part ?_
  | with_reducible refine w_partI ?_
  | with_reducible refine w_noPart ?_
  | with_reducible refine w_for ?_
  | with_reducible refine w_lc ?_
  | with_reducible refine w_rng1 ?_
  | with_reducible refine w_iList ?_
  | with_reducible refine w_iTup ?_
  | with_reducible refine w_break ?_
  | with_reducible refine w_cont ?_
  | ((with_reducible refine' w_var ?h ?_); (case h => exact rfl))
  | ((with_reducible refine' w_gName ?h ?_); (case h => (simp only [wipe, List.set]; rfl)))
  | ((with_reducible refine' w_par2 ?h ?_); (case h => (simp only [wipe, List.set]; rfl)))
  | ((with_reducible refine' w_mod ?h ?_); (case h => omega))
  | ((with_reducible refine' w_mul ?h ?_); (case h => omega))
  | ((with_reducible refine' w_rng1I ?h ?_); (case h => omega))
  | with_reducible refine iteT ?_
  | with_reducible refine iteF ?_
  | ((with_reducible refine' iteDT ?h ?_); (case h => omega))
  | ((with_reducible refine' iteDF ?h ?_); (case h => omega))
  | ((with_reducible refine' iteNT ?h ?_); (case h => omega))
  | ((with_reducible refine' iteNF ?h ?_); (case h => omega))
  | ((with_reducible refine' iteDT ?h ?_); (case h => decide +kernel))
  | ((with_reducible refine' iteDF ?h ?_); (case h => decide +kernel))
  | ((with_reducible refine' iteNT ?h ?_); (case h => decide +kernel))
  | ((with_reducible refine' iteNF ?h ?_); (case h => decide +kernel))
  | fail "stop")
local macro_rules | `(tactic| walk_at "st") => `(tactic| (walk_at "s1"; repeat' walk_at "s1"))
/-! ### _law_count -/
def sp_law_count (n : Nat) (K : PySem.W.Frag) (w : World) : Sp := fun vs H Q _ => ∃ (a : Addr) (xs : List V) (ds : List PyData), vs = [.ref a] ∧ PyData.depthAll ds < n ∧ SqT K H a xs ∧ DpAll K H xs ds ∧ okAll ds = true ∧ ∀ H', Same H H' → Q (.int (cntAll ds : Nat)) H'
abbrev n_f_law_count : List Str := ["_law_thing", "_law_found", "_law_part_here"]
def t_f_law_count (K : PySem.W.Frag) (w : World) (n : Nat) : TS :=
 (tSeq (tAsg (tC (.int 0)) (gName 1))
 (tSeq (tFor (iTup K (tVar 0)) (gName 2) (tIfS (tB (tCB (rIsi' K) (tCons (tVar 2) (tCons (tC (.ty "tuple")) tNil)))) (tAsg (tOp (rI0 fun i j => .int (i + j)) (tOp (rI0 fun i j => .int (i + j)) (tVar 1) (tCall (sp_law_count n K w) [] E0 (tCons (tVar 2) tNil))) (tCB rInt1 (tCons (tAndV (tOp (rNeNilT K) (tVar 2) (tTup tNil)) (tCB (rIsi' K) (tCons (tOp (rIxT K) (tVar 2) (tC (.int 0))) (tCons (tC (.ty "str")) tNil)))) tNil))) (gName 1)) tNext))
 (tRet (tVar 1))))
theorem st_f_law_count {x0 : V} : start n_f_law_count [x0] = [some x0, none, none] := rfl
theorem pu_f_law_count {K : PySem.W.Frag} {w : World} (n : Nat) (vs : List V) (H : Hp) (Q : VK) (E : XK) (h : sp_law_count (n + 1) K w vs H Q E) : t_f_law_count K w n { nx := fun _ H' => Q .non H', rt := Q } (start n_f_law_count vs) H := by
  obtain ⟨a, xs, ds, rfl, hd, ha, hx, ok, q⟩ := h
  rw [st_f_law_count]
  unfold t_f_law_count
  walk_at "st"
  refine w_itt ha ?_
  have hl := DpAll.len hx
  refine k_forT (fun i σ H' => ∃ x2, σ = [some (.ref a), some (.int (cntAll (ds.take i) : Nat)), x2] ∧ Same H H') ⟨_, rfl, Same.refl _⟩ (fun i σ H' _ ⟨_, _, s⟩ => (Imm.same s).t ha) (fun i x σ H1 hi hxi hP => ?_) fun σ H1 hP => ?_
  · obtain ⟨x2, rfl, s1⟩ := hP
    obtain ⟨d, hdi, hdp⟩ := DpAll.get hx hxi
    have hdp1 := Dp.imm (Imm.same s1) d (okAll.get ok hdi) hdp
    have hod := okAll.get ok hdi
    have hsn : cntAll (ds.take (i + 1)) = cntAll (ds.take i) + (cntD d + headS d) := by rw [take_snoc hdi, cnt_snoc]
    walk_at "st"
    cases hdp1 with
    | non => cases hod
    | bl b => cases hod
    | lst h1 h2 => cases hod
    | int z =>
      refine w_isi (isi_intT K H1 z) ?_
      walk_at "st"
      exact ⟨_, by rw [hsn]; rfl, s1⟩
    | str z =>
      refine w_isi (isi_strT z) ?_
      walk_at "st"
      exact ⟨_, by rw [hsn]; rfl, s1⟩
    | @tup b zs ys h1 h2 =>
      refine w_isi (isi_tup h1) ?_
      walk_at "st"
      have hdep : PyData.depthAll ys + 1 ≤ PyData.depthAll ds := depth_get hdi
      refine ⟨b, zs, ys, rfl, by omega, h1, h2, hod, fun H2 s2 => ?_⟩
      walk_at "st"
      refine k_tupS (K := K) fun p H3 s3 f3 => ?_
      refine w_neNilT ((Imm.same (s2.trans s3)).t h1) f3 ?_
      have i13 : Imm H1 H3 := Imm.same (s2.trans s3)
      have h13 := i13.t h1
      have h23 := DpAll.imm i13 ys hod h2
      have fin : ∀ z : Nat, z = headS (.tuple ys) → (∃ x2, ([some (V.ref a), some (V.int ((cntAll (ds.take i) : Nat) + (cntAll ys : Nat) + (z : Nat))), some (V.ref b)] : L2.St) = [some (V.ref a), some (V.int (cntAll (ds.take (i + 1)) : Nat)), x2] ∧ Same H H3) := by
        rintro z rfl
        refine ⟨some (.ref b), ?_, s1.trans (s2.trans s3)⟩
        rw [hsn]
        show [some (V.ref a), some (V.int _), some (V.ref b)] = [some (V.ref a), some (V.int ((cntAll (ds.take i) + (cntAll ys + headS (.tuple ys)) : Nat) : Int)), some (V.ref b)]
        rw [show ((cntAll (ds.take i) + (cntAll ys + headS (.tuple ys)) : Nat) : Int) = (cntAll (ds.take i) : Nat) + (cntAll ys : Nat) + (headS (.tuple ys) : Nat) by omega]
      cases h23 with
      | nil =>
        walk_at "st"
        refine w_nT ?_
        walk_at "st"
        exact fin 0 rfl
      | @cons v vs' y ys' hy hys =>
        walk_at "st"
        refine w_nF ?_
        walk_at "st"
        refine w_ixT h13 (atI_nat (j := 0) (v := v) rfl) ?_
        have hoy : okD y = true := (Bool.and_eq_true_iff.mp hod).1
        cases hy with
        | non => cases hoy
        | bl b => cases hoy
        | lst h1 h2 => cases hoy
        | int z =>
          walk_at "st"
          refine w_isi (isi_intS z) ?_
          walk_at "st"
          exact fin 0 rfl
        | str z =>
          walk_at "st"
          refine w_isi (isi_strS K H3 z) ?_
          walk_at "st"
          exact fin 1 rfl
        | tup g1 g2 =>
          walk_at "st"
          refine w_isi (isi_tupS g1) ?_
          walk_at "st"
          exact fin 0 rfl
  · obtain ⟨x2, rfl, s1⟩ := hP
    rw [hl, List.take_length]
    walk_at "st"
    exact q H1 s1
theorem use_count {K : PySem.W.Frag} {w : World} {H : Hp} {L : List As} {Q : VK} {E : XK} {b : List Dd} {a : Addr} {bs : List V} (h : Sep H L) (f : SqT K H a bs) (hb : DdsAt K H b bs) (hd : dpDs b ≤ 8) (q : ∀ H', Imm H H' → Sep H' L → Q (.int (szDs b : Nat)) H') : sp_law_count 20 K w [.ref a] H Q E := by
  have := dds_depth b
  exact ⟨a, bs, ddsD b, rfl, by omega, f, dds_dp hb, dds_ok b, fun H' s => by rw [dds_cnt]; exact q H' (Imm.same s) (h.same s)⟩
end SD
set_option Elab.async false
set_option linter.all false
set_option maxRecDepth 100000
set_option maxHeartbeats 4000000
namespace SD
open PySem PySem.Spec PyProof.Rows L2
local macro_rules | `(tactic| walk_at "s1") => `(tactic| first
  | with_reducible refine w_nT ?_
  | with_reducible refine w_nF ?_
  | with_reducible refine w_frzS ?_
  | with_reducible refine w_seq ?_
  | with_reducible refine w_next ?_
  | with_reducible refine w_asg ?_
  | with_reducible refine w_drop ?_
  | with_reducible refine w_ret ?_
  | with_reducible refine w_retN ?_
  | with_reducible refine w_ifs ?_
  | with_reducible refine w_par ?_
  | with_reducible refine w_c ?_
  | with_reducible refine w_nil ?_
  | with_reducible refine w_cons ?_
  | with_reducible refine w_op ?_
  | with_reducible refine w_un ?_
  | with_reducible refine w_rI0 ?_
  | with_reducible refine w_rU ?_
  | with_reducible refine w_test ?_
  | with_reducible refine w_b ?_
  | with_reducible refine w_bl ?_
  | with_reducible refine w_and ?_
  | with_reducible refine w_or ?_
  | with_reducible refine w_not ?_
  | with_reducible refine w_andV ?_
  | with_reducible refine w_orV ?_
  | with_reducible refine w_notV ?_
  | with_reducible refine w_if ?_
  | with_reducible refine w_chain ?_
  | with_reducible refine w_eqI ?_
  | with_reducible refine w_neI ?_
  | with_reducible refine w_eqS ?_
  | with_reducible refine w_neS ?_
  | with_reducible refine w_pcons ?_
  | with_reducible refine w_pnil ?_
  | with_reducible refine w_dget ?_
  | with_reducible refine w_dget2 ?_
  | with_reducible refine w_dput ?_
  | with_reducible refine w_neB ?_
  | with_reducible refine w_eqB ?_
  | with_reducible refine w_isNb ?_
  | with_reducible refine w_isNs ?_
  | with_reducible refine w_min ?_
  | with_reducible refine w_max ?_
  | with_reducible refine w_isNn ?_
  | with_reducible refine w_isNi ?_
  | with_reducible refine w_isNr ?_
  | with_reducible refine w_notNn ?_
  | with_reducible refine w_notNi ?_
  | with_reducible refine w_notNr ?_
  | with_reducible refine w_call ?_
  | with_reducible refine w_cb ?_
  | with_reducible refine w_meth ?_
  | with_reducible refine w_make ?_
  | with_reducible refine w_tup ?_
  | with_reducible refine w_lst ?_
  | with_reducible refine w_int1b ?_
  | with_reducible refine w_int1 ?_
  | with_reducible refine w_gNil ?_
  | with_reducible refine w_gCons ?_
  | with_reducible refine w_gSub ?_
  | with_reducible refine w_bm ?_
  | with_reducible refine w_sl ?_
  | with_reducible refine w_part ?_
  | with_reducible refine w_partI ?_
  | with_reducible refine w_noPart ?_
  | with_reducible refine w_for ?_
  | with_reducible refine w_lc ?_
  | with_reducible refine w_rng1 ?_
  | with_reducible refine w_iList ?_
  | with_reducible refine w_iTup ?_
  | with_reducible refine w_break ?_
  | with_reducible refine w_cont ?_
  | ((with_reducible refine' w_var ?h ?_); (case h => exact rfl))
  | ((with_reducible refine' w_gName ?h ?_); (case h => (simp only [wipe, List.set]; rfl)))
  | ((with_reducible refine' w_par2 ?h ?_); (case h => (simp only [wipe, List.set]; rfl)))
  | ((with_reducible refine' w_mod ?h ?_); (case h => omega))
  | ((with_reducible refine' w_mul ?h ?_); (case h => omega))
  | ((with_reducible refine' w_rng1I ?h ?_); (case h => omega))
  | with_reducible refine iteT ?_
  | with_reducible refine iteF ?_
  | ((with_reducible refine' iteDT ?h ?_); (case h => omega))
  | ((with_reducible refine' iteDF ?h ?_); (case h => omega))
  | ((with_reducible refine' iteNT ?h ?_); (case h => omega))
  | ((with_reducible refine' iteNF ?h ?_); (case h => omega))
  | ((with_reducible refine' iteDT ?h ?_); (case h => decide +kernel))
  | ((with_reducible refine' iteDF ?h ?_); (case h => decide +kernel))
  | ((with_reducible refine' iteNT ?h ?_); (case h => decide +kernel))
  | ((with_reducible refine' iteNF ?h ?_); (case h => decide +kernel))
  | fail "stop")
local macro_rules | `(tactic| walk_at "st") => `(tactic| (walk_at "s1"; repeat' walk_at "s1"))
theorem use_part {K : PySem.W.Frag} {w : World} {H : Hp} {L : List As} {Q : VK} {E : XK} {a d : Addr} {ns : List Int} {names cells deep : Nat} (h : Sep H (diceA K a d ns :: L)) (hd : deep < 4) (hc : 0 < cells) (hc2 : cells ≤ 1000) (hn : names ≤ 1000)
    (q : ∀ v p H', Imm H H' → Sep H' (diceA K a d ns :: L) → PtAt K H' p v → p.wf names cells = true → p.dp ≤ deep + 1 → Q v H') : sp_law_part 4 K w [.ref d, .int (names : Nat), .int (cells : Nat), .int (deep : Nat)] H Q E :=
  ⟨a, d, ns, names, cells, deep, L, rfl, hd, hc, hc2, hn, h, fun H' v p i h' f w d => q v p H' i h' f w d⟩
/-! ### _law_body -/
structure BodyIn (K : PySem.W.Frag) (H : Hp) (ps pl : Addr) (names cells : Nat) (params : List Nat) : Prop where
  c0 : 0 < cells
  c1 : cells ≤ 1000
  n1 : names ≤ 1000
  p0 : params ≠ []
  p1 : params.length ≤ 1000
  p2 : ∀ p ∈ params, p ≤ 900
  s : SqT K H ps [.int (names : Nat), .int (cells : Nat), .ref pl]
  l : SqF K H pl (params.map fun n => V.int (n : Nat))
theorem BodyIn.mono {K : PySem.W.Frag} {H H' : Hp} {ps pl : Addr} {names cells : Nat} {params : List Nat} (i : Imm H H') (h : BodyIn K H ps pl names cells params) : BodyIn K H' ps pl names cells params :=
  ⟨h.c0, h.c1, h.n1, h.p0, h.p1, h.p2, i.t h.s, i.f h.l⟩
def sp_law_body (n : Nat) (K : PySem.W.Frag) (w : World) : Sp := fun vs H Q _ => ∃ (a d ps pl : Addr) (ns : List Int) (names cells deep most : Nat) (params : List Nat) (L : List As), vs = [.ref d, .ref ps, .int (deep : Nat), .int (most : Nat)] ∧ deep < n ∧ most ≤ 100 ∧
  BodyIn K H ps pl names cells params ∧ Sep H (diceA K a d ns :: L) ∧ ∀ H' v b, Imm H H' → Sep H' (diceA K a d ns :: L) → BodyAt K H' b v → wfDs names cells params b = true → dpDs b ≤ deep + 4 → b.length ≤ most → Q v H'
def PBody (K : PySem.W.Frag) (H0 : Hp) (a d ps pl : Addr) (ns : List Int) (names cells deep most : Nat) (params : List Nat) (L : List As) (i : Nat) (σ : L2.St) (H : Hp) : Prop :=
  ∃ b a4 bs x8 x9 x10 x11 x12 x13 x14, σ = [some (.ref d), some (.ref ps), some (.int (deep : Nat)), some (.int (most : Nat)), some (.ref a4), some (.int (names : Nat)), some (.int (cells : Nat)), some (.ref pl), x8, x9, x10, x11, x12, x13, x14] ∧ Imm H0 H ∧
    Sep H (diceA K a d ns :: L) ∧ SqT K H a4 bs ∧ DdsAt K H b bs ∧ wfDs names cells params b = true ∧ dpDs b ≤ deep + 4 ∧ b.length ≤ i
abbrev n_f_law_body : List Str := ["_law_d", "_law_s", "_law_deep", "_law_most", "_law_found", "_law_names_here", "_law_cells", "_law_params", "_law_turn", "_law_way", "_law_part_here", "_law_inner", "_law_k", "_law_fun", "_law_parts"]
def t_f_law_body (K : PySem.W.Frag) (w : World) (n : Nat) : TS :=
 (tSeq (tAsg (tTup tNil) (gName 4))
 (tSeq (tAsg (tVar 1) (gTup K 3 (gCons (gName 5) (gCons (gName 6) (gCons (gName 7) gNil)))))
 (tSeq (tFor (iRng1 (tCons (tCall (sp_law_next K w) [] E0 (tCons (tVar 0) (tCons (tOp (rI0 fun i j => .int (i + j)) (tVar 3) (tC (.int 1))) tNil))) tNil)) (gName 8) (tSeq (tAsg (tCall (sp_law_next K w) [] E0 (tCons (tVar 0) (tCons (tC (.int 11)) tNil))) (gName 9))
 (tSeq (tAsg (tCall (sp_law_part 4 K w) [] E0 (tCons (tVar 0) (tCons (tVar 5) (tCons (tVar 6) (tCons (tCall (sp_law_next K w) [] E0 (tCons (tVar 0) (tCons (tC (.int 3)) tNil))) tNil))))) (gName 10))
 (tIfS (tAnd (tTest (tOp (rI0 fun i j => .bl (decide (i < j))) (tVar 9) (tC (.int 2)))) (tTest (tOp (rI0 fun i j => .bl (decide (j < i))) (tVar 5) (tC (.int 0))))) (tAsg (tOp (rCatA K) (tVar 4) (tTup (tCons (tTup (tCons (tC (.str "set")) (tCons (tCall (sp_law_next K w) [] E0 (tCons (tVar 0) (tCons (tVar 5) tNil))) (tCons (tVar 10) tNil)))) tNil))) (gName 4)) (tIfS (tTest (tOp (rI0 fun i j => .bl (decide (i < j))) (tVar 9) (tC (.int 4)))) (tAsg (tOp (rCatA K) (tVar 4) (tTup (tCons (tTup (tCons (tC (.str "put")) (tCons (tCall (sp_law_next K w) [] E0 (tCons (tVar 0) (tCons (tVar 6) tNil))) (tCons (tVar 10) tNil)))) tNil))) (gName 4)) (tIfS (tTest (tOp (rI0 fun i j => .bl (decide (i < j))) (tVar 9) (tC (.int 6)))) (tAsg (tOp (rCatA K) (tVar 4) (tTup (tCons (tTup (tCons (tC (.str "say")) (tCons (tVar 10) tNil))) tNil))) (gName 4)) (tIfS (tAnd (tTest (tOp rEq (tVar 9) (tC (.int 6)))) (tTest (tOp (rI0 fun i j => .bl (decide (j < i))) (tVar 2) (tC (.int 0))))) (tSeq (tAsg (tLc (iRng1 (tCons (tC (.int 2)) tNil)) (gName 12) tYes (tCall (sp_law_body n K w) [] E0 (tCons (tVar 0) (tCons (tVar 1) (tCons (tOp (rI0 fun i j => .int (i - j)) (tVar 2) (tC (.int 1))) (tCons (tC (.int 2)) tNil))))) [12]) (gName 11))
 (tAsg (tOp (rCatA K) (tVar 4) (tTup (tCons (tTup (tCons (tC (.str "if")) (tCons (tVar 10) (tCons (tOp (rIxL K) (tVar 11) (tC (.int 0))) (tCons (tOp (rIxL K) (tVar 11) (tC (.int 1))) tNil))))) tNil))) (gName 4))) (tIfS (tAnd (tTest (tOp rEq (tVar 9) (tC (.int 7)))) (tTest (tOp (rI0 fun i j => .bl (decide (j < i))) (tVar 2) (tC (.int 0))))) (tAsg (tOp (rCatA K) (tVar 4) (tTup (tCons (tTup (tCons (tC (.str "again")) (tCons (tVar 10) (tCons (tCall (sp_law_body n K w) [] E0 (tCons (tVar 0) (tCons (tVar 1) (tCons (tOp (rI0 fun i j => .int (i - j)) (tVar 2) (tC (.int 1))) (tCons (tC (.int 3)) tNil))))) tNil)))) tNil))) (gName 4)) (tIfS (tAnd (tTest (tOp (rI0 fun i j => .bl (decide (i < j))) (tVar 9) (tC (.int 10)))) (tTest (tOp (rI0 fun i j => .bl (decide (j < i))) (tVar 5) (tC (.int 0))))) (tSeq (tAsg (tCall (sp_law_next K w) [] E0 (tCons (tVar 0) (tCons (tCB (rLenS' K) (tCons (tVar 7) tNil)) tNil))) (gName 13))
 (tSeq (tAsg (tCB (rTupleOf K) (tCons (tLc (iRng1 (tCons (tOp (rIxL K) (tVar 7) (tVar 13)) tNil)) (gName 12) tYes (tCall (sp_law_part 4 K w) [] E0 (tCons (tVar 0) (tCons (tVar 5) (tCons (tVar 6) (tCons (tC (.int 1)) tNil))))) [12]) tNil)) (gName 14))
 (tAsg (tOp (rCatA K) (tVar 4) (tTup (tCons (tTup (tCons (tC (.str "call")) (tCons (tVar 13) (tCons (tVar 14) (tCons (tCall (sp_law_next K w) [] E0 (tCons (tVar 0) (tCons (tVar 5) tNil))) tNil))))) tNil))) (gName 4)))) (tIfS (tAnd (tTest (tOp rEq (tVar 9) (tC (.int 10)))) (tTest (tOp rEq (tCall (sp_law_next K w) [] E0 (tCons (tVar 0) (tCons (tC (.int 3)) tNil))) (tC (.int 0))))) (tAsg (tOp (rCatA K) (tVar 4) (tTup (tCons (tTup (tCons (tC (.str "return")) (tCons (tVar 10) tNil))) tNil))) (gName 4)) tNext))))))))))
 (tRet (tVar 4)))))
theorem st_f_law_body {x0 x1 x2 x3 : V} : start n_f_law_body [x0, x1, x2, x3] = [some x0, some x1, some x2, some x3, none, none, none, none, none, none, none, none, none, none, none] := rfl
theorem pu_f_law_body {K : PySem.W.Frag} {w : World} (n : Nat) (vs : List V) (H : Hp) (Q : VK) (E : XK) (h : sp_law_body (n + 1) K w vs H Q E) : t_f_law_body K w n { nx := fun _ H' => Q .non H', rt := Q } (start n_f_law_body vs) H := by
  obtain ⟨a, d, ps, pl, ns, names, cells, deep, most, params, L, rfl, hdp, hmo, hB, h0, q⟩ := h
  rw [st_f_law_body]
  unfold t_f_law_body
  walk_at "st"
  refine k_tup (K := K) h0 fun a4 H1 i1 h1 f1 => ?_
  walk_at "st"
  refine w_gTup (i1.t hB.s) rfl ?_
  walk_at "st"
  refine use_next h1 (by omega) (by omega) fun turns H2 ht i2 h2 => ?_
  walk_at "st"
  refine k_forR (PBody K H a d ps pl ns names cells deep most params L) ⟨[], a4, [], _, _, _, _, _, _, _, rfl, i1.trans i2, h2, i2.t f1, rfl, rfl, Nat.zero_le _, Nat.le_refl _⟩ (fun i σ H3 hi hP => ?_) fun σ H3 hP => ?_
  · obtain ⟨b, a4, bs, x8, x9, x10, x11, x12, x13, x14, rfl, i3, h3, f3, g3, wf3, dp3, len3⟩ := hP
    have hi : i < 100 := by omega
    have hbl : bs.length = b.length := g3.len
    walk_at "st"
    refine use_next h3 (by decide) (by decide) fun way H4 hw i4 h4 => ?_
    walk_at "st"
    refine use_next h4 (by decide) (by decide) fun dr H5 hdr i5 h5 => ?_
    walk_at "st"
    have i35 := i4.trans i5
    refine use_part h5 (by omega) hB.c0 hB.c1 hB.n1 fun pv pp H6 i6 h6 f6 wf6 dp6 => ?_
    have i36 := i35.trans i6
    have hB6 := hB.mono (i3.trans i36)
    have fin : ∀ (dd : Dd) (t : Addr) (H' : Hp) (x11 x12 x13 x14 : Option V), Imm H6 H' → Sep H' (diceA K a d ns :: L) → DdAt K H' dd (.ref t) → dd.wf names cells params = true → dd.dp ≤ deep + 4 →
        KTup (fun y H2 => rCatA K (.ref a4) y H2 (fun x H1 => gName 4 x [some (.ref d), some (.ref ps), some (.int (deep : Nat)), some (.int (most : Nat)), some (.ref a4), some (.int (names : Nat)), some (.int (cells : Nat)), some (.ref pl), some (.int (i : Nat)), some (.int (way : Nat)), some pv, x11, x12, x13, x14] H1
          (PBody K H a d ps pl ns names cells deep most params L (i + 1)))) [.ref t] H' := by
      intro dd t H7 x11 x12 x13 x14 i7 h7 f7 wf7 dp7
      refine k_tup (K := K) h7 fun p1 H8 i8 h8 f8 => ?_
      have i38 := (i36.trans i7).trans i8
      refine w_catA h8 (i38.t f3) f8 (by simp only [List.length_cons, List.length_nil]; omega) fun p2 H9 i9 h9 f9 => ?_
      walk_at "st"
      refine ⟨b ++ [dd], p2, bs ++ [.ref t], _, _, _, _, _, _, _, rfl, i3.trans (i38.trans i9), h9, f9, DdsAt.app (g3.mono (i38.trans i9)) ⟨_, _, rfl, f7.mono (i8.trans i9), rfl⟩, wfDs_app wf3 ?_, ?_, by rw [List.length_append]; exact Nat.succ_le_succ len3⟩
      · show (dd.wf names cells params && true) = true; rw [wf7]; rfl
      · rw [dpDs_app]; show max (dpDs b) (max dd.dp 0) ≤ deep + 4; omega
    walk_at "st"
    refine w_andJ (decide (0 < (names : Int))) (fun QB h => by walk_at "st"; exact h) ?_
    refine ite2 (fun c => ?_) fun c => ?_
    · have hn : 0 < names := by have := of_decide_eq_true (Bool.and_eq_true_iff.mp c).2; omega
      walk_at "st"
      refine use_next h6 (by omega) (by have := hB.n1; omega) fun k H7 hk i7 h7 => ?_
      walk_at "st"
      refine k_tup (K := K) h7 fun t H8 i8 h8 f8 => ?_
      walk_at "st"
      exact fin (.set k pp) t H8 _ _ _ _ (i7.trans i8) h8 ⟨t, _, rfl, f8, f6.mono (i7.trans i8)⟩ (by simp only [Dd.wf, wf6, Bool.and_true, decide_eq_true_eq]; omega) (by simp only [Dd.dp]; omega)
    clear c
    walk_at "st"
    refine ite2 (fun c => ?_) fun c => ?_
    · walk_at "st"
      refine use_next h6 (by have := hB.c0; omega) (by have := hB.c1; omega) fun k H7 hk i7 h7 => ?_
      walk_at "st"
      refine k_tup (K := K) h7 fun t H8 i8 h8 f8 => ?_
      walk_at "st"
      exact fin (.put k pp) t H8 _ _ _ _ (i7.trans i8) h8 ⟨t, _, rfl, f8, f6.mono (i7.trans i8)⟩ (by simp only [Dd.wf, wf6, Bool.and_true, decide_eq_true_eq]; omega) (by simp only [Dd.dp]; omega)
    walk_at "st"
    refine ite2 (fun c => ?_) fun c => ?_
    · walk_at "st"
      refine k_tup (K := K) h6 fun t H8 i8 h8 f8 => ?_
      walk_at "st"
      exact fin (.say pp) t H8 _ _ _ _ i8 h8 ⟨t, _, rfl, f8, f6.mono i8⟩ (by simp only [Dd.wf, wf6]) (by simp only [Dd.dp]; omega)
    walk_at "st"
    refine w_andJ (decide (0 < (deep : Int))) (fun QB h => by walk_at "st"; exact h) ?_
    refine ite2 (fun c => ?_) fun c => ?_
    · have hd0 : 0 < deep := by have := of_decide_eq_true (Bool.and_eq_true_iff.mp c).2; omega
      have ed : ((deep : Int) - 1) = ((deep - 1 : Nat) : Int) := by omega
      walk_at "st"
      refine k_lcR (n := 2) h6 (fun D i H => ∃ vals, Sep H (cellA D (.lst vals) :: diceA K a d ns :: L) ∧ Imm H6 H ∧ vals.length = i ∧ ∀ (j : Nat) v, vals[j]? = some v → ∃ b, BodyAt K H b v ∧ wfDs names cells params b = true ∧ dpDs b ≤ deep - 1 + 4)
        (fun D H' i7 h7 => ⟨[], h7, i7, rfl, fun j v e => by simp at e⟩) (fun D i H7 hi hP => ?_) fun D H7 hP => ?_
      · obtain ⟨vals, h7, i7, hl, hv⟩ := hP
        refine k_lcB ?_
        walk_at "st"
        refine w_yes rfl ?_
        walk_at "st"
        rw [ed]
        refine ⟨a, d, ps, pl, ns, names, cells, deep - 1, 2, params, _, rfl, by omega, by decide, hB6.mono i7, h7.swap, fun H8 v b i8 h8 f8 wf8 dp8 _ => ?_⟩
        refine k_acc h8.swap.cell (by omega) ⟨vals ++ [v], h8.swap.set rfl, i7.trans (i8.trans (h8.swap.imm rfl)), by rw [List.length_append, hl]; rfl, fun j u e => ?_⟩
        have i9 := h8.swap.imm (o' := .lst (vals ++ [v])) rfl
        by_cases hj : j < vals.length
        · rw [List.getElem?_append_left hj] at e
          obtain ⟨b', g1, g2, g3⟩ := hv j u e
          exact ⟨b', (g1.mono i8).mono i9, g2, g3⟩
        · rw [List.getElem?_append_right (by omega)] at e
          have : j - vals.length = 0 := by
            by_cases h0 : j - vals.length = 0
            · exact h0
            · rw [List.getElem?_eq_none (by simp; omega)] at e; cases e
          rw [this] at e
          cases e
          exact ⟨b, f8.mono i9, wf8, dp8⟩
      · obtain ⟨vals, h7, i7, hl, hv⟩ := hP
        obtain ⟨v0, v1, rfl⟩ : ∃ v0 v1, vals = [v0, v1] := by
          match vals, hl with
          | [v0, v1], _ => exact ⟨v0, v1, rfl⟩
        obtain ⟨b0, ⟨z0, y0, rfl, g0, k0⟩, wf0, dp0⟩ := hv 0 v0 rfl
        obtain ⟨b1, ⟨z1, y1, rfl, g1, k1⟩, wf1, dp1⟩ := hv 1 v1 rfl
        walk_at "st"
        refine w_ixL (SqL.of h7.cell) (v := .ref z0) rfl ?_
        walk_at "st"
        refine w_ixL (SqL.of h7.cell) (v := .ref z1) rfl ?_
        walk_at "st"
        refine k_tup (K := K) h7.tail fun t H8 i8 h8 f8 => ?_
        walk_at "st"
        exact fin (.iff pp b0 b1) t H8 _ _ _ _ (i7.trans i8) h8 ⟨t, _, z0, z1, y0, y1, rfl, f8, f6.mono (i7.trans i8), i8.t g0, k0.mono i8, i8.t g1, k1.mono i8⟩ (by simp only [Dd.wf, wf6, wf0, wf1]; rfl) (by simp only [Dd.dp]; omega)
    clear c
    walk_at "st"
    refine w_andJ (decide (0 < (deep : Int))) (fun QB h => by walk_at "st"; exact h) ?_
    refine ite2 (fun c => ?_) fun c => ?_
    · have hd0 : 0 < deep := by have := of_decide_eq_true (Bool.and_eq_true_iff.mp c).2; omega
      have ed : ((deep : Int) - 1) = ((deep - 1 : Nat) : Int) := by omega
      walk_at "st"
      rw [ed]
      refine ⟨a, d, ps, pl, ns, names, cells, deep - 1, 3, params, _, rfl, by omega, by decide, hB6, h6, fun H8 v b1 i8 h8 f8 wf8 dp8 _ => ?_⟩
      obtain ⟨z1, y1, rfl, g1, k1⟩ := f8
      walk_at "st"
      refine k_tup (K := K) h8 fun t H9 i9 h9 f9 => ?_
      walk_at "st"
      exact fin (.again pp b1) t H9 _ _ _ _ (i8.trans i9) h9 ⟨t, _, z1, y1, rfl, f9, f6.mono (i8.trans i9), i9.t g1, k1.mono i9⟩ (by simp only [Dd.wf, wf6, wf8]; rfl) (by simp only [Dd.dp]; omega)
    clear c
    walk_at "st"
    refine w_andJ (decide (0 < (names : Int))) (fun QB h => by walk_at "st"; exact h) ?_
    refine ite2 (fun c => ?_) fun c => ?_
    · have hn : 0 < names := by have := of_decide_eq_true (Bool.and_eq_true_iff.mp c).2; omega
      have hpl : 0 < params.length := List.length_pos_iff.mpr hB.p0
      walk_at "st"
      refine w_lenL hB6.l.l ?_
      walk_at "st"
      rw [List.length_map]
      refine use_next h6 (by omega) (by have := hB.p1; omega) fun fn H7 hfn i7 h7 => ?_
      walk_at "st"
      have hfn : fn < params.length := by omega
      have ep : params[fn]? = some params[fn] := List.getElem?_eq_getElem hfn
      have hp2 := hB.p2 _ (List.mem_of_getElem? ep)
      generalize params[fn] = pn at ep hp2
      refine w_ixL (i7.f hB6.l).l (v := .int (pn : Nat)) (atI_nat (by rw [List.getElem?_map, ep]; rfl)) ?_
      walk_at "st"
      refine k_lcR (n := ((pn : Nat) : Int).toNat) h7 (fun D i H => ∃ vals ps', Sep H (cellA D (.lst vals) :: diceA K a d ns :: L) ∧ Imm H7 H ∧ ps'.length = i ∧ PtsAt K H ps' vals ∧ wfPs names cells ps' = true ∧ dpPs ps' ≤ 2)
        (fun D H' i8 h8 => ⟨[], [], h8, i8, rfl, rfl, rfl, Nat.zero_le _⟩) (fun D i H8 hi hP => ?_) fun D H8 hP => ?_
      · obtain ⟨vals, ps', h8, i8, hl, hv, hw', hd'⟩ := hP
        refine k_lcB ?_
        walk_at "st"
        refine w_yes rfl ?_
        walk_at "st"
        refine use_part (deep := 1) h8.swap (by decide) hB.c0 hB.c1 hB.n1 fun v p H9 i9 h9 f9 wf9 dp9 => ?_
        have hvl := hv.len
        refine k_acc h9.swap.cell (by rw [Int.toNat_natCast] at hi; omega) ⟨vals ++ [v], ps' ++ [p], h9.swap.set rfl, i8.trans (i9.trans (h9.swap.imm rfl)), by rw [List.length_append, hl]; rfl, PtsAt.app (hv.mono (i9.trans (h9.swap.imm rfl))) ⟨v, [], rfl, f9.mono (h9.swap.imm rfl), rfl⟩, wfPs_app hw' ?_, ?_⟩
        · show (p.wf names cells && true) = true; rw [wf9]; rfl
        · rw [dpPs_app]; show max (dpPs ps') (max p.dp 0) ≤ 2; omega
      · obtain ⟨vals, ps', h8, i8, hl, hv, hw', hd'⟩ := hP
        rw [Int.toNat_natCast] at hl
        walk_at "st"
        refine w_tupL h8.tail (SqL.of h8.cell) fun vp H9 i9 h9 f9 => ?_
        walk_at "st"
        refine use_next h9 (by omega) (by have := hB.n1; omega) fun k H10 hk i10 h10 => ?_
        walk_at "st"
        refine k_tup (K := K) h10 fun t H11 i11 h11 f11 => ?_
        walk_at "st"
        exact fin (.call fn ps' k) t H11 _ _ _ _ (i7.trans (i8.trans (i9.trans (i10.trans i11)))) h11 ⟨t, vp, vals, rfl, f11, (i10.trans i11).t f9, hv.mono (i9.trans (i10.trans i11))⟩ (by simp only [Dd.wf, ep, hl, hw', decide_true, Bool.true_and, Bool.and_true, decide_eq_true_eq]; omega) (by simp only [Dd.dp]; omega)
    clear c
    walk_at "st"
    have same : ∀ (H' : Hp) (x11 x12 x13 x14 : Option V), Imm H6 H' → Sep H' (diceA K a d ns :: L) → PBody K H a d ps pl ns names cells deep most params L (i + 1) [some (.ref d), some (.ref ps), some (.int (deep : Nat)), some (.int (most : Nat)), some (.ref a4), some (.int (names : Nat)), some (.int (cells : Nat)), some (.ref pl), some (.int (i : Nat)), some (.int (way : Nat)), some pv, x11, x12, x13, x14] H' :=
      fun H' x11 x12 x13 x14 i7 h7 => ⟨b, a4, bs, _, _, _, _, _, _, _, rfl, i3.trans (i36.trans i7), h7, (i36.trans i7).t f3, g3.mono (i36.trans i7), wf3, dp3, Nat.le_succ_of_le len3⟩
    refine ite2 (fun c => ?_) fun c => ?_
    · walk_at "st"
      refine use_next h6 (by decide) (by decide) fun k H7 hk i7 h7 => ?_
      walk_at "st"
      refine ite2 (fun c => ?_) fun c => ?_
      · walk_at "st"
        refine k_tup (K := K) h7 fun t H8 i8 h8 f8 => ?_
        walk_at "st"
        exact fin (.ret pp) t H8 _ _ _ _ (i7.trans i8) h8 ⟨t, _, rfl, f8, f6.mono (i7.trans i8)⟩ (by simp only [Dd.wf, wf6]) (by simp only [Dd.dp]; omega)
      · walk_at "st"
        exact same _ _ _ _ _ i7 h7
    · walk_at "st"
      exact same _ _ _ _ _ (.refl _) h6
  · obtain ⟨b, a4, bs, x8, x9, x10, x11, x12, x13, x14, rfl, i3, h3, f3, g3, wf3, dp3, len3⟩ := hP
    walk_at "st"
    exact q H3 _ b i3 h3 ⟨a4, bs, rfl, f3, g3⟩ wf3 dp3 (by omega)
end SD
set_option Elab.async false
set_option linter.all false
set_option maxRecDepth 100000
set_option maxHeartbeats 4000000
namespace SD
open PySem PySem.Spec PyProof.Rows L2
local macro_rules | `(tactic| walk_at "s1") => `(tactic| first
  | with_reducible refine w_nT ?_
  | with_reducible refine w_nF ?_
  | with_reducible refine w_frzS ?_
  | with_reducible refine w_seq ?_
  | with_reducible refine w_next ?_
  | with_reducible refine w_asg ?_
  | with_reducible refine w_drop ?_
  | with_reducible refine w_ret ?_
  | with_reducible refine w_retN ?_
  | with_reducible refine w_ifs ?_
  | with_reducible refine w_par ?_
  | with_reducible refine w_c ?_
  | with_reducible refine w_nil ?_
  | with_reducible refine w_cons ?_
  | with_reducible refine w_op ?_
  | with_reducible refine w_un ?_
  | with_reducible refine w_rI0 ?_
  | with_reducible refine w_rU ?_
  | with_reducible refine w_test ?_
  | with_reducible refine w_b ?_
  | with_reducible refine w_bl ?_
  | with_reducible refine w_and ?_
  | with_reducible refine w_or ?_
  | with_reducible refine w_not ?_
  | with_reducible refine w_andV ?_
  | with_reducible refine w_orV ?_
  | with_reducible refine w_notV ?_
  | with_reducible refine w_if ?_
  | with_reducible refine w_chain ?_
  | with_reducible refine w_eqI ?_
  | with_reducible refine w_neI ?_
  | with_reducible refine w_eqS ?_
  | with_reducible refine w_neS ?_
  | with_reducible refine w_pcons ?_
  | with_reducible refine w_pnil ?_
  | with_reducible refine w_dget ?_
  | with_reducible refine w_dget2 ?_
  | with_reducible refine w_dput ?_
  | with_reducible refine w_neB ?_
  | with_reducible refine w_eqB ?_
  | with_reducible refine w_isNb ?_
  | with_reducible refine w_isNs ?_
  | with_reducible refine w_min ?_
  | with_reducible refine w_max ?_
  | with_reducible refine w_isNn ?_
  | with_reducible refine w_isNi ?_
  | with_reducible refine w_isNr ?_
  | with_reducible refine w_notNn ?_
  | with_reducible refine w_notNi ?_
  | with_reducible refine w_notNr ?_
  | with_reducible refine w_call ?_
  | with_reducible refine w_cb ?_
  | with_reducible refine w_meth ?_
  | with_reducible refine w_make ?_
  | with_reducible refine w_tup ?_
  | with_reducible refine w_lst ?_
  | with_reducible refine w_int1b ?_
  | with_reducible refine w_int1 ?_
  | with_reducible refine w_gNil ?_
  | with_reducible refine w_gCons ?_
  | with_reducible refine w_gSub ?_
  | with_reducible refine w_bm ?_
  | with_reducible refine w_sl ?_
  | with_reducible refine w_part ?_
  | with_reducible refine w_partI ?_
  | with_reducible refine w_noPart ?_
  | with_reducible refine w_for ?_
  | with_reducible refine w_lc ?_
  | with_reducible refine w_rng1 ?_
  | with_reducible refine w_iList ?_
  | with_reducible refine w_iTup ?_
  | with_reducible refine w_break ?_
  | with_reducible refine w_cont ?_
  | ((with_reducible refine' w_var ?h ?_); (case h => exact rfl))
  | ((with_reducible refine' w_gName ?h ?_); (case h => (simp only [wipe, List.set]; rfl)))
  | ((with_reducible refine' w_par2 ?h ?_); (case h => (simp only [wipe, List.set]; rfl)))
  | ((with_reducible refine' w_mod ?h ?_); (case h => omega))
  | ((with_reducible refine' w_mul ?h ?_); (case h => omega))
  | ((with_reducible refine' w_rng1I ?h ?_); (case h => omega))
  | with_reducible refine iteT ?_
  | with_reducible refine iteF ?_
  | ((with_reducible refine' iteDT ?h ?_); (case h => omega))
  | ((with_reducible refine' iteDF ?h ?_); (case h => omega))
  | ((with_reducible refine' iteNT ?h ?_); (case h => omega))
  | ((with_reducible refine' iteNF ?h ?_); (case h => omega))
  | ((with_reducible refine' iteDT ?h ?_); (case h => decide +kernel))
  | ((with_reducible refine' iteDF ?h ?_); (case h => decide +kernel))
  | ((with_reducible refine' iteNT ?h ?_); (case h => decide +kernel))
  | ((with_reducible refine' iteNF ?h ?_); (case h => decide +kernel))
  | fail "stop")
local macro_rules | `(tactic| walk_at "st") => `(tactic| (walk_at "s1"; repeat' walk_at "s1"))
/-! ### _law_program -/
def HeadsAt (K : PySem.W.Frag) (H : Hp) : List (Nat × Nat) → List V → Prop
  | [], vs => vs = []
  | x :: r, vs => ∃ a s, vs = .ref a :: s ∧ SqT K H a [.int (x.1 : Nat), .int (x.2 : Nat)] ∧ HeadsAt K H r s
section
variable {K : PySem.W.Frag} {H H' : Hp}
theorem HeadsAt.mono (i : Imm H H') : ∀ {t : List (Nat × Nat)} {v : List V}, HeadsAt K H t v → HeadsAt K H' t v
  | [], v, h => h
  | t :: r, v, ⟨a, s, e, h, h1⟩ => ⟨a, s, e, i.t h, HeadsAt.mono i h1⟩
theorem HeadsAt.len : ∀ {t : List (Nat × Nat)} {v : List V}, HeadsAt K H t v → v.length = t.length
  | [], v, h => by rw [show v = [] from h]; rfl
  | t :: r, v, ⟨a, s, e, h, h1⟩ => by rw [e, List.length_cons, List.length_cons, HeadsAt.len h1]
theorem HeadsAt.get : ∀ {t : List (Nat × Nat)} {v : List V} {i : Nat} {x : V}, HeadsAt K H t v → v[i]? = some x → ∃ a y, x = .ref a ∧ t[i]? = some y ∧ SqT K H a [.int (y.1 : Nat), .int (y.2 : Nat)]
  | [], v, i, x, h, e => by rw [show v = [] from h] at e; simp at e
  | y :: r, v, 0, x, ⟨a, s, ev, h, h1⟩, e => by rw [ev] at e; simp at e; subst e; exact ⟨a, y, rfl, rfl, h⟩
  | y :: r, v, i + 1, x, ⟨a, s, ev, h, h1⟩, e => by rw [ev] at e; exact HeadsAt.get (i := i) h1 (by simpa using e)
theorem HeadsAt.app : ∀ {p q : List (Nat × Nat)} {v u : List V}, HeadsAt K H p v → HeadsAt K H q u → HeadsAt K H (p ++ q) (v ++ u)
  | [], q, v, u, h, h2 => by rw [show v = [] from h]; exact h2
  | p :: r, q, v, u, ⟨a, t, e, h, h1⟩, h2 => ⟨a, t ++ u, by rw [e]; rfl, h, HeadsAt.app h1 h2⟩
end
structure HdOk (hs : List (Nat × Nat)) : Prop where
  h0 : ∃ n r, hs = (0, n) :: r
  le : ∀ x ∈ hs, x.1 ≤ x.2 ∧ x.2 ≤ 4
  len : hs.length ≤ 4
structure FsOk (cells : Nat) (hs : List (Nat × Nat)) (fs : List Fn) : Prop where
  hd : fs.map (fun f => (f.params, f.names)) = hs.take fs.length
  ok : ∀ f ∈ fs, wfDs f.names cells (hs.map (·.1)) f.body = true ∧ dpDs f.body ≤ 8 ∧ f.body.length ≤ 6
theorem wf_drop {n c : Nat} {ps : List Nat} : ∀ {b : List Dd}, wfDs n c ps b = true → wfDs n c ps (b.drop 1) = true
  | [], h => h
  | d :: r, h => (Bool.and_eq_true_iff.mp h).2
theorem dp_drop : ∀ {b : List Dd}, dpDs (b.drop 1) ≤ dpDs b
  | [] => Nat.le_refl _
  | d :: r => Nat.le_max_right _ _
def dropF (f : Fn) : Fn := { f with body := f.body.drop 1 }
def lenFs (fs : List Fn) : Nat := (fs.map fun f => f.body.length).sum
def szFs (fs : List Fn) : Nat := (fs.map fun f => szDs f.body).sum
theorem len_drop : ∀ fs : List Fn, lenFs (fs.map dropF) ≤ lenFs fs ∧ (0 < szFs fs → lenFs (fs.map dropF) < lenFs fs)
  | [] => ⟨Nat.le_refl _, fun h => absurd h (Nat.lt_irrefl _)⟩
  | f :: r => by
    obtain ⟨h1, h2⟩ := len_drop r
    have e1 : lenFs ((f :: r).map dropF) = (f.body.length - 1) + lenFs (r.map dropF) := by
      show (f.body.drop 1).length + lenFs (r.map dropF) = _
      rw [List.length_drop]
    have e2 : lenFs (f :: r) = f.body.length + lenFs r := rfl
    have e3 : szFs (f :: r) = szDs f.body + szFs r := rfl
    refine ⟨by omega, fun h => ?_⟩
    by_cases hb : f.body.length = 0
    · have : szDs f.body = 0 := by rw [List.length_eq_zero_iff.mp hb]; rfl
      have := h2 (by omega)
      omega
    · omega
theorem sum_ints : ∀ xs : List Nat, (xs.map fun n => ((n : Nat) : Int)).sum = ((xs.sum : Nat) : Int)
  | [] => rfl
  | x :: r => by rw [List.map_cons, List.sum_cons, List.sum_cons, sum_ints r]; omega
def sp_law_program (K : PySem.W.Frag) (w : World) : Sp := fun vs H Q _ => ∃ (a d : Addr) (ns : List Int) (L : List As), vs = [.ref d] ∧ Sep H (diceA K a d ns :: L) ∧ ∀ H' v p, Imm H H' → Sep H' (diceA K a d ns :: L) → ProgAt K H' p v → p.Wf → Q v H'
abbrev n_f_law_program : List Str := ["_law_d", "_law_cells", "_law_k", "_law_heads", "_law_names_here", "_law_params", "_law_head", "_law_funs", "_law_deep", "_law_body_here", "_law_fun", "_law_free", "_law_hands"]
def t_f_law_program (K : PySem.W.Frag) (w : World)  : TS :=
 (tSeq (tAsg (tTup tNil) (gName 1))
 (tSeq (tFor (iRng1 (tCons (tOp (rI0 fun i j => .int (i + j)) (tC (.int 1)) (tCall (sp_law_next K w) [] E0 (tCons (tVar 0) (tCons (tC (.int 8)) tNil)))) tNil)) (gName 2) (tAsg (tOp (rCatA K) (tVar 1) (tTup (tCons (tOp (rIxL K) (tLst (tCons (tCall (sp_law_next K w) [] E0 (tCons (tVar 0) (tCons (tC (.int 4)) tNil))) (tCons (tCall (sp_law_next K w) [] E0 (tCons (tVar 0) (tCons (tC (.int 10007)) tNil))) tNil))) (tCall (sp_law_next K w) [] E0 (tCons (tVar 0) (tCons (tC (.int 2)) tNil)))) tNil))) (gName 1)))
 (tSeq (tAsg (tLst (tCons (tTup (tCons (tC (.int 0)) (tCons (tCall (sp_law_next K w) [] E0 (tCons (tVar 0) (tCons (tC (.int 5)) tNil))) tNil))) tNil)) (gName 3))
 (tSeq (tFor (iRng1 (tCons (tCall (sp_law_next K w) [] E0 (tCons (tVar 0) (tCons (tC (.int 4)) tNil))) tNil)) (gName 2) (tSeq (tAsg (tCall (sp_law_next K w) [] E0 (tCons (tVar 0) (tCons (tC (.int 5)) tNil))) (gName 4))
 (tDrop (tBM K "list" rAppend (tVar 3) (tCons (tTup (tCons (tCall (sp_law_next K w) [] E0 (tCons (tVar 0) (tCons (tOp (rI0 fun i j => .int (i + j)) (tVar 4) (tC (.int 1))) tNil))) (tCons (tVar 4) tNil))) tNil)))))
 (tSeq (tFrzS (tAsg (tLc (iList K (tVar 3)) (gName 6) tYes (tOp (rIxT K) (tVar 6) (tC (.int 0))) [6]) (gName 5)))
 (tSeq (tAsg (tLst tNil) (gName 7))
 (tSeq (tFor (iList K (tVar 3)) (gName 6) (tSeq (tAsg (tOp (rIxL K) (tLst (tCons (tC (.int 2)) (tCons (tC (.int 2)) (tCons (tC (.int 3)) (tCons (tC (.int 4)) tNil))))) (tCall (sp_law_next K w) [] E0 (tCons (tVar 0) (tCons (tC (.int 4)) tNil)))) (gName 8))
 (tSeq (tAsg (tCall (sp_law_body 5 K w) [] E0 (tCons (tVar 0) (tCons (tTup (tCons (tOp (rIxT K) (tVar 6) (tC (.int 1))) (tCons (tCB (rLenS' K) (tCons (tVar 1) tNil)) (tCons (tVar 5) tNil)))) (tCons (tVar 8) (tCons (tOp (rIxL K) (tLst (tCons (tC (.int 3)) (tCons (tC (.int 6)) tNil))) (tCall (sp_law_next K w) [] E0 (tCons (tVar 0) (tCons (tC (.int 2)) tNil)))) tNil))))) (gName 9))
 (tDrop (tBM K "list" rAppend (tVar 7) (tCons (tTup (tCons (tOp (rIxT K) (tVar 6) (tC (.int 0))) (tCons (tOp (rIxT K) (tVar 6) (tC (.int 1))) (tCons (tVar 9) tNil)))) tNil))))))
 (tSeq (tWhile (tTest (tOp (rI0 fun i j => .bl (decide (j < i))) (tCB (rSum K) (tCons (tLc (iList K (tVar 7)) (gName 10) tYes (tCall (sp_law_count 20 K w) [] E0 (tCons (tOp (rIxT K) (tVar 10) (tC (.int 2))) tNil)) [10]) tNil)) (tC (.int 100)))) (tAsg (tLc (iList K (tVar 7)) (gName 10) tYes (tTup (tCons (tOp (rIxT K) (tVar 10) (tC (.int 0))) (tCons (tOp (rIxT K) (tVar 10) (tC (.int 1))) (tCons (tSl (rSlA K) (tOp (rIxT K) (tVar 10) (tC (.int 2))) (tPart (tC (.int 1))) tNoPart) tNil)))) [10]) (gName 7)))
 (tSeq (tAsg (tLc (iRng1 (tCons (tCB (rLenS' K) (tCons (tVar 3) tNil)) tNil)) (gName 2) (tTest (tOp rEq (tOp (rIxL K) (tVar 5) (tVar 2)) (tC (.int 0)))) (tVar 2) [2]) (gName 11))
 (tSeq (tAsg (tCB (rTupleOf K) (tCons (tLc (iRng1 (tCons (tOp (rI0 fun i j => .int (i + j)) (tC (.int 1)) (tCall (sp_law_next K w) [] E0 (tCons (tVar 0) (tCons (tC (.int 3)) tNil)))) tNil)) (gName 2) tYes (tOp (rIxL K) (tVar 11) (tCall (sp_law_next K w) [] E0 (tCons (tVar 0) (tCons (tCB (rLenS' K) (tCons (tVar 11) tNil)) tNil)))) [2]) tNil)) (gName 12))
 (tRet (tTup (tCons (tVar 1) (tCons (tCB (rTupleOf K) (tCons (tVar 7) tNil)) (tCons (tVar 12) tNil)))))))))))))))
theorem st_f_law_program {x0 : V} : start n_f_law_program [x0] = [some x0, none, none, none, none, none, none, none, none, none, none, none, none] := rfl
theorem pu_f_law_program {K : PySem.W.Frag} {w : World} (vs : List V) (H : Hp) (Q : VK) (E : XK) (h : sp_law_program K w vs H Q E) : t_f_law_program K w { nx := fun _ H' => Q .non H', rt := Q } (start n_f_law_program vs) H := by
  obtain ⟨a, d, ns, L, rfl, h0, q⟩ := h
  rw [st_f_law_program]
  unfold t_f_law_program
  walk_at "st"
  -- cells
  refine k_tup (K := K) h0 fun c0 H1 i1 h1 f1 => ?_
  walk_at "st"
  refine use_next h1 (by decide) (by decide) fun nc H2 hnc i2 h2 => ?_
  walk_at "st"
  refine k_forR (n := (1 + (nc : Int)).toNat) (fun i σ H3 => ∃ c x2 cs, σ = [some (.ref d), some (.ref c), x2, none, none, none, none, none, none, none, none, none, none] ∧ Imm H H3 ∧ Sep H3 (diceA K a d ns :: L) ∧ SqT K H3 c ((cs : List Int).map V.int) ∧ cs.length = i ∧ ∀ x ∈ cs, 0 ≤ x ∧ x < 10007)
    ⟨c0, _, [], rfl, i1.trans i2, h2, i2.t f1, rfl, fun x hx => by cases hx⟩ (fun i σ H3 hi hP => ?_) fun σ H3 hP => ?_
  · obtain ⟨c, x2, cs, rfl, i3, h3, f3, hl, hr⟩ := hP
    walk_at "st"
    refine use_next h3 (by decide) (by decide) fun r1 H4 hr1 i4 h4 => ?_
    walk_at "st"
    refine use_next h4 (by decide) (by decide) fun r2 H5 hr2 i5 h5 => ?_
    walk_at "st"
    refine k_lst h5 fun l1 H6 i6 h6 => ?_
    walk_at "st"
    refine use_next h6.swap (by decide) (by decide) fun r3 H7 hr3 i7 h7 => ?_
    obtain ⟨num, hnum, hn0⟩ : ∃ num : Nat, atI [V.int (r1 : Nat), V.int (r2 : Nat)] ((r3 : Nat) : Int) = some (.int (num : Nat)) ∧ num < 10007 := by
      have : r3 = 0 ∨ r3 = 1 := by omega
      rcases this with rfl | rfl
      · exact ⟨r1, rfl, by omega⟩
      · exact ⟨r2, rfl, by omega⟩
    refine w_ixL (SqL.of h7.swap.cell) hnum ?_
    walk_at "st"
    refine k_tup (K := K) (h7.pull 0 rfl) fun p1 H8 i8 h8 f8 => ?_
    have i38 := i4.trans (i5.trans (i6.trans (i7.trans i8)))
    refine w_catA h8 (i38.t f3) f8 (by simp only [List.length_cons, List.length_nil, List.length_map]; omega) fun c2 H9 i9 h9 f9 => ?_
    walk_at "st"
    refine ⟨c2, _, cs ++ [((num : Nat) : Int)], rfl, i3.trans (i38.trans i9), (h9.swap.tail : Sep H9 (diceA K a d ns :: L)), by rw [List.map_append]; exact f9, by rw [List.length_append, hl]; rfl, fun x hx => ?_⟩
    rcases List.mem_append.mp hx with hx | hx
    · exact hr x hx
    · rw [List.mem_singleton.mp hx]; omega
  obtain ⟨c, x2, cs, rfl, i3, h3, f3, hl, hr⟩ := hP
  have hcl : 1 ≤ cs.length ∧ cs.length ≤ 8 := by omega
  clear hl hnc f1 h1 h2 i1 i2
  -- heads
  walk_at "st"
  refine use_next h3 (by decide) (by decide) fun r1 H4 hr1 i4 h4 => ?_
  walk_at "st"
  refine k_tup (K := K) h4 fun p1 H5 i5 h5 f5 => ?_
  walk_at "st"
  refine k_lst h5 fun hl H6 i6 h6 => ?_
  walk_at "st"
  refine use_next h6.swap (by decide) (by decide) fun nh H7 hnh i7 h7 => ?_
  walk_at "st"
  have i37 := i4.trans (i5.trans (i6.trans i7))
  refine k_forR (n := ((nh : Nat) : Int).toNat) (fun i σ H8 => ∃ x2 x4 hs vals, σ = [some (.ref d), some (.ref c), x2, some (.ref hl), x4, none, none, none, none, none, none, none, none] ∧ Imm H3 H8 ∧ Sep H8 (diceA K a d ns :: cellA hl (.lst vals) :: L) ∧ HeadsAt K H8 hs vals ∧ (∃ n r, hs = (0, n) :: r) ∧ (∀ x ∈ hs, x.1 ≤ x.2 ∧ x.2 ≤ 4) ∧ hs.length = 1 + i)
    ⟨_, _, [(0, r1)], [.ref p1], rfl, i37, h7, ⟨p1, [], rfl, (i6.trans i7).t f5, rfl⟩, ⟨r1, [], rfl⟩, fun x hx => by rw [List.mem_singleton.mp hx]; exact ⟨Nat.zero_le _, by show r1 ≤ 4; omega⟩, rfl⟩ (fun i σ H8 hi hP => ?_) fun σ H8 hP => ?_
  · obtain ⟨x2, x4, hs, vals, rfl, i8, h8, g8, ⟨n0, r0, e0⟩, le8, len8⟩ := hP
    have hvl := g8.len
    walk_at "st"
    refine use_next h8 (by decide) (by decide) fun nm H9 hnm i9 h9 => ?_
    walk_at "st"
    refine w_tyL (SqL.of h9.swap.cell) ?_
    walk_at "st"
    refine use_next h9 (by omega) (by omega) fun pr H10 hpr i10 h10 => ?_
    walk_at "st"
    refine k_tup (K := K) h10 fun t H11 i11 h11 f11 => ?_
    walk_at "st"
    refine w_append h11.swap.cell (by omega) ?_
    have h12 := h11.swap.set (o' := .lst (vals ++ [.ref t])) rfl
    have i12 := h11.swap.imm (o' := .lst (vals ++ [.ref t])) rfl
    refine ⟨_, _, hs ++ [(pr, nm)], vals ++ [.ref t], rfl, i8.trans (i9.trans (i10.trans (i11.trans i12))), h12.swap, HeadsAt.app (g8.mono (i9.trans (i10.trans (i11.trans i12)))) ⟨t, [], rfl, i12.t f11, rfl⟩, ⟨n0, r0 ++ [(pr, nm)], by rw [e0]; rfl⟩, fun x hx => ?_, by rw [List.length_append, len8]; rfl⟩
    rcases List.mem_append.mp hx with hx | hx
    · exact le8 x hx
    · rw [List.mem_singleton.mp hx]; exact ⟨by show pr ≤ nm; omega, by show nm ≤ 4; omega⟩
  obtain ⟨x2, x4, hs, vals, rfl, i8, h8, g8, e0, le8, len8⟩ := hP
  have ho : HdOk hs := ⟨e0, le8, by omega⟩
  have hvl := g8.len
  have f8 := i8.t f3
  replace i8 := i3.trans i8
  clear i37 i4 i5 i6 i7 h4 h5 h6 h7 f5 h3 i3 f3 e0 le8 len8 hr1 hnh
  -- params
  walk_at "st"
  refine w_itl (SqL.of h8.swap.cell) ?_
  refine k_lcL h8 (fun D i H9 => Imm H8 H9 ∧ Sep H9 (cellA D (.lst ((hs.take i).map fun x => V.int (x.1 : Nat))) :: diceA K a d ns :: cellA hl (.lst vals) :: L)) (fun D H9 i9 h9 => ⟨i9, h9⟩) (fun D i H9 _ hP => SqL.of (hP.2.pull 2 rfl).cell) (fun D i x H9 hi hx hP => ?_) fun D H9 hP => ?_
  · obtain ⟨i9, h9⟩ := hP
    obtain ⟨t, y, rfl, ey, ft⟩ := (g8.mono i9).get hx
    refine k_lcB ?_
    walk_at "st"
    refine w_yes rfl ?_
    walk_at "st"
    refine w_ixT ft (v := .int (y.1 : Nat)) rfl ?_
    refine k_acc h9.cell (by rw [List.length_map, List.length_take]; have := ho.len; omega) ⟨i9.trans (h9.imm rfl), ?_⟩
    rw [take_snoc ey, List.map_append]
    exact h9.set rfl
  obtain ⟨i9, h9⟩ := hP
  rw [hvl, List.take_length] at h9
  walk_at "st"
  refine k_frz (K := K) h9 fun H10 i10 h10 f10 => ?_
  have f10 : SqF K H10 D ((hs.map (·.1)).map fun n => V.int (n : Nat)) := by rw [List.map_map]; exact f10
  have g10 := g8.mono (i9.trans i10)
  have fc10 := (i9.trans i10).t f8
  replace i10 := i8.trans (i9.trans i10)
  clear i8 i9 h8 h9 g8 f8
  -- funs
  walk_at "st"
  refine k_lst h10 fun fl H11 i11 h11 => ?_
  walk_at "st"
  refine w_itl (SqL.of (h11.pull 2 rfl).cell) ?_
  refine k_forL (xs := vals) (fun i σ H12 => ∃ x6 x8 x9 fs fv, σ = [some (.ref d), some (.ref c), x2, some (.ref hl), x4, some (.ref D), x6, some (.ref fl), x8, x9, none, none, none] ∧ Imm H10 H12 ∧ Sep H12 (diceA K a d ns :: cellA fl (.lst fv) :: cellA hl (.lst vals) :: L) ∧ FnsAt K H12 fs fv ∧ FsOk cs.length hs fs ∧ fs.length = i)
    ⟨_, _, _, [], [], rfl, i11, h11.swap, rfl, ⟨rfl, fun f hf => by cases hf⟩, rfl⟩ (fun i σ H12 _ hP => by obtain ⟨x6, x8, x9, fs, fv, rfl, i12, h12, _⟩ := hP; exact SqL.of (h12.pull 2 rfl).cell) (fun i x σ H12 hi hx hP => ?_) fun σ H12 hP => ?_
  · obtain ⟨x6, x8, x9, fs, fv, rfl, i12, h12, g12, o12, len12⟩ := hP
    obtain ⟨t, y, rfl, ey, ft⟩ := (g10.mono i12).get hx
    obtain ⟨hy1, hy2⟩ := ho.le y (List.mem_of_getElem? ey)
    have hfl := g12.len
    have hhl := ho.len
    walk_at "st"
    refine k_lst h12 fun l1 H13 i13 h13 => ?_
    walk_at "st"
    refine use_next h13.swap (by decide) (by decide) fun r1 H14 hr1 i14 h14 => ?_
    obtain ⟨dd, hdd, hdd4⟩ : ∃ dd : Nat, atI [V.int 2, V.int 2, V.int 3, V.int 4] ((r1 : Nat) : Int) = some (.int (dd : Nat)) ∧ dd ≤ 4 := by
      have : r1 = 0 ∨ r1 = 1 ∨ r1 = 2 ∨ r1 = 3 := by omega
      rcases this with rfl | rfl | rfl | rfl
      · exact ⟨2, rfl, by decide⟩
      · exact ⟨2, rfl, by decide⟩
      · exact ⟨3, rfl, by decide⟩
      · exact ⟨4, rfl, by decide⟩
    refine w_ixL (SqL.of h14.swap.cell) hdd ?_
    have h14 : Sep H14 (diceA K a d ns :: cellA fl (.lst fv) :: cellA hl (.lst vals) :: L) := h14.swap.tail
    walk_at "st"
    refine w_ixT ((i13.trans i14).t ft) (v := .int (y.2 : Nat)) rfl ?_
    walk_at "st"
    refine w_lenT ((i12.trans (i13.trans i14)).t fc10) ?_
    walk_at "st"
    rw [List.length_map]
    refine k_tup (K := K) h14 fun s H15 i15 h15 f15 => ?_
    walk_at "st"
    refine k_lst h15 fun l2 H16 i16 h16 => ?_
    walk_at "st"
    refine use_next h16.swap (by decide) (by decide) fun r2 H17 hr2 i17 h17 => ?_
    obtain ⟨mo, hmo, hmo6⟩ : ∃ mo : Nat, atI [V.int 3, V.int 6] ((r2 : Nat) : Int) = some (.int (mo : Nat)) ∧ mo ≤ 6 := by
      have : r2 = 0 ∨ r2 = 1 := by omega
      rcases this with rfl | rfl
      · exact ⟨3, rfl, by decide⟩
      · exact ⟨6, rfl, by decide⟩
    refine w_ixL (SqL.of h17.swap.cell) hmo ?_
    have h17 : Sep H17 (diceA K a d ns :: cellA fl (.lst fv) :: cellA hl (.lst vals) :: L) := h17.swap.tail
    walk_at "st"
    have i1217 := i13.trans (i14.trans (i15.trans (i16.trans i17)))
    refine ⟨a, d, s, D, ns, y.2, cs.length, dd, mo, hs.map (·.1), _, rfl, by omega, by omega, ⟨by omega, by omega, by omega, ?_, by rw [List.length_map]; omega, fun p hp => ?_, (i16.trans i17).t f15, (i12.trans i1217).f f10⟩, h17, fun H18 v b i18 h18 f18 wf18 dp18 len18 => ?_⟩
    · obtain ⟨n0, r0, e⟩ := ho.h0; rw [e]; exact fun h => by cases h
    · obtain ⟨z, hz, rfl⟩ := List.mem_map.mp hp
      have := ho.le z hz; omega
    walk_at "st"
    refine w_tyL (SqL.of h18.swap.cell) ?_
    walk_at "st"
    have ft18 := (i1217.trans i18).t ft
    refine w_ixT ft18 (v := .int (y.1 : Nat)) rfl ?_
    walk_at "st"
    refine w_ixT ft18 (v := .int (y.2 : Nat)) rfl ?_
    walk_at "st"
    refine k_tup (K := K) h18 fun p H19 i19 h19 f19 => ?_
    walk_at "st"
    refine w_append h19.swap.cell (by omega) ?_
    have h20 := h19.swap.set (o' := .lst (fv ++ [.ref p])) rfl
    have i20 := h19.swap.imm (o' := .lst (fv ++ [.ref p])) rfl
    have i1220 := i1217.trans (i18.trans (i19.trans i20))
    refine ⟨_, _, _, fs ++ [⟨y.1, y.2, b⟩], fv ++ [.ref p], rfl, i12.trans i1220, h20.swap, FnsAt.app (g12.mono i1220) ⟨_, [], rfl, ⟨p, v, rfl, i20.t f19, f18.mono (i19.trans i20)⟩, rfl⟩, ⟨?_, fun f hf => ?_⟩, by rw [List.length_append, len12]; rfl⟩
    · rw [List.map_append, o12.hd, List.length_append, len12, show i + [(⟨y.1, y.2, b⟩ : Fn)].length = i + 1 from rfl, take_snoc ey]; rfl
    · rcases List.mem_append.mp hf with hf | hf
      · exact o12.ok f hf
      · rw [List.mem_singleton.mp hf]; exact ⟨wf18, by show dpDs b ≤ 8; omega, by show b.length ≤ 6; omega⟩
  obtain ⟨x6, x8, x9, fs, fv, rfl, i12, h12, g12, o12, len12⟩ := hP
  rw [hvl] at len12
  -- while too many
  walk_at "st"
  refine w_while (fun m σ H13 => ∃ fl fs fv, m = lenFs fs ∧ σ = [some (.ref d), some (.ref c), x2, some (.ref hl), x4, some (.ref D), x6, some (.ref fl), x8, x9, none, none, none] ∧ Imm H10 H13 ∧ Sep H13 (cellA fl (.lst fv) :: diceA K a d ns :: cellA hl (.lst vals) :: L) ∧ FnsAt K H13 fs fv ∧ FsOk cs.length hs fs ∧ fs.length = hs.length)
    (lenFs fs) ⟨fl, fs, fv, rfl, rfl, i12, h12.swap, g12, o12, len12⟩ ?_
  clear i12 h12 g12 o12 len12 fs fv fl i11 h11
  rintro m σ H13 ⟨fl, fs, fv, rfl, rfl, i13, h13, g13, o13, len13⟩
  have hfl := g13.len
  have hhl := ho.len
  walk_at "st"
  refine w_itl (SqL.of h13.cell) ?_
  refine k_lcL h13 (fun D' i H14 => Imm H13 H14 ∧ Sep H14 (cellA D' (.lst ((((fs.map fun f => szDs f.body).take i).map fun n => ((n : Nat) : Int)).map V.int)) :: cellA fl (.lst fv) :: diceA K a d ns :: cellA hl (.lst vals) :: L)) (fun D' H14 i14 h14 => ⟨i14, by simpa using h14⟩) (fun D' i H14 _ hP => SqL.of hP.2.swap.cell) (fun D' i x H14 hi hx hP => ?_) fun D' H14 hP => ?_
  · obtain ⟨i14, h14⟩ := hP
    obtain ⟨f, ef, t, vb, rfl, ft, b, bs, rfl, fb, gb⟩ := (g13.mono i14).get hx
    obtain ⟨_, dpf, _⟩ := o13.ok f (List.mem_of_getElem? ef)
    refine k_lcB ?_
    walk_at "st"
    refine w_yes rfl ?_
    walk_at "st"
    refine w_ixT ft (v := .ref b) rfl ?_
    walk_at "st"
    refine use_count h14 fb gb dpf fun H15 i15 h15 => ?_
    refine k_acc h15.cell (by rw [List.length_map, List.length_map, List.length_take, List.length_map]; omega) ⟨i14.trans (i15.trans (h15.imm rfl)), ?_⟩
    rw [take_snoc (x := szDs f.body) (by rw [List.getElem?_map, ef]; rfl), List.map_append, List.map_append]
    exact h15.set rfl
  obtain ⟨i14, h14⟩ := hP
  rw [List.take_of_length_le (by rw [List.length_map]; omega)] at h14
  refine ⟨D', _, rfl, SqL.of h14.cell, ?_⟩
  rw [sum_ints]
  have h15 := h14.tail
  have g15 := g13.mono i14
  replace i14 := i13.trans i14
  clear h14 h13 g13 i13
  walk_at "st"
  rcases Nat.lt_or_ge 100 (fs.map fun f => szDs f.body).sum with hbig | hsm
  · rw [decide_eq_true (by omega)]
    refine k_turn ?_
    walk_at "st"
    refine w_itl (SqL.of h15.cell) ?_
    refine k_lcL h15 (fun D2 i H16 => ∃ fv2, Imm H14 H16 ∧ Sep H16 (cellA D2 (.lst fv2) :: cellA fl (.lst fv) :: diceA K a d ns :: cellA hl (.lst vals) :: L) ∧ FnsAt K H16 ((fs.take i).map dropF) fv2) (fun D2 H16 i16 h16 => ⟨[], i16, h16, rfl⟩) (fun D2 i H16 _ hP => by obtain ⟨_, _, h, _⟩ := hP; exact SqL.of h.swap.cell) (fun D2 i x H16 hi hx hP => ?_) fun D2 H16 hP => ?_
    · obtain ⟨fv2, i16, h16, g16⟩ := hP
      obtain ⟨f, ef, t, vb, rfl, ft, b, bs, rfl, fb, gb⟩ := (g15.mono i16).get hx
      have hl2 := g16.len
      refine k_lcB ?_
      walk_at "st"
      refine w_yes rfl ?_
      walk_at "st"
      refine w_ixT ft (v := .int (f.params : Nat)) rfl ?_
      walk_at "st"
      refine w_ixT ft (v := .int (f.names : Nat)) rfl ?_
      walk_at "st"
      refine w_ixT ft (v := .ref b) rfl ?_
      walk_at "st"
      refine w_slA h16 fb fun r H17 i17 h17 f17 => ?_
      rw [cut1] at f17
      walk_at "st"
      refine k_tup (K := K) h17 fun p H18 i18 h18 f18 => ?_
      have i19 := h18.imm (o' := .lst (fv2 ++ [.ref p])) rfl
      have gb' : DdsAt K H16 (f.body.drop 1) (bs.drop 1) := by
        cases hb : f.body with
        | nil => rw [hb] at gb; rw [show bs = [] from gb]; rfl
        | cons y r => rw [hb] at gb; obtain ⟨v, t', e1, e2, e3⟩ := gb; rw [e1]; exact e3
      refine k_acc h18.cell (by rw [hl2, List.length_map, List.length_take]; omega) ⟨fv2 ++ [.ref p], i16.trans (i17.trans (i18.trans i19)), h18.set rfl, ?_⟩
      rw [take_snoc ef, List.map_append]
      exact FnsAt.app (g16.mono (i17.trans (i18.trans i19))) ⟨_, [], rfl, ⟨p, .ref r, rfl, i19.t f18, r, _, rfl, (i18.trans i19).t f17, gb'.mono (i17.trans (i18.trans i19))⟩, rfl⟩
    · obtain ⟨fv2, i16, h16, g16⟩ := hP
      rw [hfl, List.take_length] at g16
      walk_at "st"
      have hm := (len_drop fs).2 (by show 0 < (fs.map fun f => szDs f.body).sum; omega)
      refine ⟨lenFs (fs.map dropF), hm, D2, fs.map dropF, fv2, rfl, rfl, i14.trans i16, h16.swap.tail.perm (.refl _) |> fun z => (h16.pull 0 rfl).swap.tail.perm (.refl _) |> fun _ => (h16.swap.tail), g16, ⟨?_, fun f hf => ?_⟩, by rw [List.length_map]; exact len13⟩
      · rw [List.map_map, List.length_map]; exact o13.hd
      · obtain ⟨f', hf', rfl⟩ := List.mem_map.mp hf
        obtain ⟨k1, k2, k3⟩ := o13.ok f' hf'
        exact ⟨wf_drop k1, Nat.le_trans dp_drop k2, by show (f'.body.drop 1).length ≤ 6; rw [List.length_drop]; omega⟩
  rw [decide_eq_false (by omega)]
  refine k_done ?_
  have hd : fs.map (fun f => (f.params, f.names)) = hs := by rw [o13.hd, len13, List.take_length]
  have hps : fs.map Fn.params = hs.map (·.1) := by rw [← hd, List.map_map]; rfl
  have f16 := i14.f f10
  have fc16 := i14.t fc10
  -- free
  walk_at "st"
  refine w_lenL (SqL.of (h15.pull 2 rfl).cell) ?_
  walk_at "st"
  rw [hvl]
  refine k_lcR (n := ((hs.length : Nat) : Int).toNat) h15 (fun D2 i H16 => Imm H14 H16 ∧ Sep H16 (cellA D2 (.lst (((List.range i).filter fun k => decide ((hs.map (·.1))[k]? = some 0)).map fun n => V.int (n : Nat))) :: cellA fl (.lst fv) :: diceA K a d ns :: cellA hl (.lst vals) :: L)) (fun D2 H16 i16 h16 => ⟨i16, h16⟩) (fun D2 i H16 hi hP => ?_) fun D2 H16 hP => ?_
  · obtain ⟨i16, h16⟩ := hP
    rw [Int.toNat_natCast] at hi
    refine k_lcB ?_
    walk_at "st"
    refine ⟨rfl, ?_⟩
    have hi2 : i < (hs.map (·.1)).length := by rw [List.length_map]; exact hi
    have ek : (hs.map (·.1))[i]? = some ((hs.map (·.1))[i]) := List.getElem?_eq_getElem hi2
    generalize (hs.map (·.1))[i] = z at ek
    walk_at "st"
    refine w_ixL (i16.f f16).l (v := .int (z : Nat)) (atI_nat (by rw [List.getElem?_map, ek]; rfl)) ?_
    walk_at "st"
    have hsn : ((List.range (i + 1)).filter fun k => decide ((hs.map (·.1))[k]? = some 0)) = ((List.range i).filter fun k => decide ((hs.map (·.1))[k]? = some 0)) ++ (if z = 0 then [i] else []) := by
      rw [List.range_succ, List.filter_append]
      congr 1
      by_cases hz : z = 0
      · rw [if_pos hz]; simp [ek, hz]
      · rw [if_neg hz]; simp [ek, hz]
    by_cases hz : z = 0
    · rw [decide_eq_true (by omega)]
      walk_at "st"
      have hlen : ((List.range i).filter fun k => decide ((hs.map (·.1))[k]? = some 0)).length ≤ i := Nat.le_trans (List.length_filter_le _ _) (by rw [List.length_range]; exact Nat.le_refl _)
      refine k_acc h16.cell (by rw [List.length_map]; omega) ⟨i16.trans (h16.imm rfl), ?_⟩
      rw [hsn, if_pos hz, List.map_append]
      exact h16.set rfl
    · rw [decide_eq_false (by omega)]
      walk_at "st"
      rw [hsn, if_neg hz, List.append_nil]
      exact ⟨i16, h16⟩
  obtain ⟨i16, h16⟩ := hP
  rw [Int.toNat_natCast] at h16
  have hfree : ∀ k ∈ ((List.range hs.length).filter fun k => decide ((hs.map (·.1))[k]? = some 0)), (hs.map (·.1))[k]? = some 0 := fun k hk => of_decide_eq_true (List.mem_filter.mp hk).2
  have hfl2 : ((List.range hs.length).filter fun k => decide ((hs.map (·.1))[k]? = some 0)).length ≤ 4 := Nat.le_trans (List.length_filter_le _ _) (by rw [List.length_range]; exact hhl)
  have hf0 : 0 < ((List.range hs.length).filter fun k => decide ((hs.map (·.1))[k]? = some 0)).length := by
    obtain ⟨n0, r0, e⟩ := ho.h0
    refine List.length_pos_of_mem (a := 0) (List.mem_filter.mpr ⟨?_, ?_⟩)
    · rw [e, List.mem_range]; exact Nat.succ_pos _
    · rw [e]; rfl
  generalize ((List.range hs.length).filter fun k => decide ((hs.map (·.1))[k]? = some 0)) = free at h16 hfree hfl2 hf0
  -- hands
  walk_at "st"
  refine use_next (h16.pull 2 rfl) (by decide) (by decide) fun nh H17 hnh i17 h17 => ?_
  walk_at "st"
  have h17 : Sep H17 (diceA K a d ns :: cellA D2 (.lst (free.map fun n => V.int (n : Nat))) :: cellA fl (.lst fv) :: cellA hl (.lst vals) :: L) := h17
  refine k_lcR (n := (1 + (nh : Int)).toNat) h17 (fun D3 i H18 => ∃ hh : List Nat, Imm H17 H18 ∧ Sep H18 (cellA D3 (.lst (hh.map fun n => V.int (n : Nat))) :: diceA K a d ns :: cellA D2 (.lst (free.map fun n => V.int (n : Nat))) :: cellA fl (.lst fv) :: cellA hl (.lst vals) :: L) ∧ hh.length = i ∧ ∀ k ∈ hh, (hs.map (·.1))[k]? = some 0)
    (fun D3 H18 i18 h18 => ⟨[], i18, h18, rfl, fun k hk => by cases hk⟩) (fun D3 i H18 hi hP => ?_) fun D3 H18 hP => ?_
  · obtain ⟨hh, i18, h18, hl18, hk18⟩ := hP
    refine k_lcB ?_
    walk_at "st"
    refine w_yes rfl ?_
    walk_at "st"
    refine w_lenL (SqL.of (h18.pull 2 rfl).cell) ?_
    walk_at "st"
    rw [List.length_map]
    refine use_next h18.swap (by omega) (by omega) fun r H19 hr i19 h19 => ?_
    have hr : r < free.length := by omega
    have er : free[r]? = some free[r] := List.getElem?_eq_getElem hr
    have hmem := hfree _ (List.mem_of_getElem? er)
    generalize free[r] = z at er hmem
    refine w_ixL (SqL.of (h19.pull 2 rfl).cell) (v := .int (z : Nat)) (atI_nat (by rw [List.getElem?_map, er]; rfl)) ?_
    refine k_acc h19.swap.cell (by rw [List.length_map]; omega) ⟨hh ++ [z], i18.trans (i19.trans (h19.swap.imm rfl)), by rw [List.map_append]; exact h19.swap.set rfl, by rw [List.length_append, hl18]; rfl, fun k hk => ?_⟩
    rcases List.mem_append.mp hk with hk | hk
    · exact hk18 k hk
    · rw [List.mem_singleton.mp hk]; exact hmem
  obtain ⟨hh, i18, h18, hl18, hk18⟩ := hP
  walk_at "st"
  refine w_tupL (h18.tail) (SqL.of h18.cell) fun th H19 i19 h19 f19 => ?_
  walk_at "st"
  refine w_tupL h19 (SqL.of (h19.pull 2 rfl).cell) fun tf H20 i20 h20 f20 => ?_
  walk_at "st"
  refine k_tup (K := K) h20 fun tp H21 i21 h21 f21 => ?_
  have i1621 := i17.trans (i18.trans (i19.trans (i20.trans i21)))
  have h22 : Sep H21 (diceA K a d ns :: L) := h21.swap.tail.swap.tail.swap.tail
  refine q H21 _ ⟨cs, fs, hh⟩ (i10.trans (i14.trans (i16.trans i1621))) h22 ⟨tp, c, tf, th, fv, rfl, f21, (i16.trans i1621).t fc16, i21.t f20, g15.mono (i16.trans i1621), (i20.trans i21).t f19⟩ ?_
  have hpp : (⟨cs, fs, hh⟩ : Prog).params = hs.map (·.1) := hps
  have hfs : fs.length ≤ 4 ∧ 1 ≤ fs.length := by
    obtain ⟨n0, r0, e⟩ := ho.h0
    have : 1 ≤ hs.length := by rw [e]; exact Nat.succ_pos _
    omega
  refine ⟨hcl.1, hcl.2, hr, hfs.2, hfs.1, fun f hf => ?_, by show 1 ≤ hh.length; omega, by show hh.length ≤ 3; omega, fun k hk => by rw [hpp]; exact hk18 k hk, fun f hf => by rw [hpp]; exact (o13.ok f hf).1, fun f hf => (o13.ok f hf).2.1, hsm⟩
  have : (f.params, f.names) ∈ hs := by rw [← hd]; exact List.mem_map.mpr ⟨f, hf, rfl⟩
  exact ho.le _ this
end SD
set_option Elab.async false
set_option linter.all false
set_option maxRecDepth 100000
set_option maxHeartbeats 4000000
namespace SD
open PySem PySem.Spec PyProof.Rows L2
theorem use_program {K : PySem.W.Frag} {w : World} {H : Hp} {L : List As} {Q : VK} {E : XK} {a d : Addr} {ns : List Int} (h : Sep H (diceA K a d ns :: L)) (q : ∀ v p H', Imm H H' → Sep H' (diceA K a d ns :: L) → ProgAt K H' p v → p.Wf → Q v H') : sp_law_program K w [.ref d] H Q E :=
  ⟨a, d, ns, L, rfl, h, fun H' v p i h' f W => q v p H' i h' f W⟩
theorem finish_hands : ∀ (n : Nat) {w : Wd}, WOk w → (Wd.finish n w).2.M.hands.length = w.M.hands.length
  | 0, w, o => rfl
  | n + 1, w, o => by
    unfold Wd.finish
    cases e : w.event with
    | some v => rfl
    | none =>
      have ho := Wd.event_over e
      obtain ⟨f, r, d, t, e1, e2⟩ := o.M.next o.nx ho
      show (Wd.finish n w.on).2.M.hands.length = _
      rw [finish_hands n (o.on ho)]
      exact (deed_keeps o.M e1 e2).2.2.2
theorem WOk.step {w : Wd} (o : WOk w) {h : Nat} {y : Way} {m : Nat} (hh : h < w.M.hands.length) : WOk (w.step h y m).2 ∧ (w.step h y m).2.M.done ≤ w.M.done + m ∧ (w.step h y m).2.M.hands.length = w.M.hands.length := by
  have ob : WOk (w.begin (some (h, y, (w.M.hands.getD h []).length)) m) := o.begin fun g e => by cases e; exact hh
  exact ⟨WOk.finish m ob, finish_done (n := m) ob, finish_hands m ob⟩
theorem WOk.go {w : Wd} (o : WOk w) {m : Nat} : WOk (w.go m).2 ∧ (w.go m).2.M.done ≤ w.M.done + m ∧ (w.go m).2.M.hands.length = w.M.hands.length ∧ (w.go m).2.p = w.p ∧ (w.go m).2.stops = w.stops ∧ (w.go m).2.made = w.made := by
  have ob : WOk (w.begin none m) := o.begin fun g e => nomatch e
  obtain ⟨k, _, _, _, k3, k4, k5⟩ := finish_deeds m ob
  exact ⟨WOk.finish m ob, finish_done (n := m) ob, finish_hands m ob, k3, k4, k5⟩
theorem stack_len (M : Mach) (k : Nat) : (M.stack k).length = (M.hands.getD k []).length := by
  unfold Mach.stack
  cases M.hands.getD k [] with
  | nil => rfl
  | cons f r => simp
theorem init_hands (p : Prog) : (Wd.init p).M.hands.length = p.hands.length := by
  show (p.hands.map _).length = _
  rw [List.length_map]
end SD
set_option Elab.async false
set_option linter.all false
set_option maxRecDepth 100000
set_option maxHeartbeats 4000000
namespace SD
open PySem PySem.Spec PyProof.Rows L2
/-! ### nested lists that are held, as data -/
theorem take_filterMap {α : Type} (L : List α) : ∀ n : Nat, (List.range n).filterMap (fun i => L[i]?) = L.take n
  | 0 => rfl
  | n + 1 => by
    rw [List.range_succ, List.filterMap_append, take_filterMap L n, List.take_add_one]
    congr 1
/-- in another order: of the first n those at is -/
theorem Sep.sel {H : Hp} {L : List As} (h : Sep H L) (n : Nat) (is : List Nat) (p : is.Perm (List.range n) := by decide) : Sep H (is.filterMap (fun i => L[i]?) ++ L.drop n) := by
  refine h.perm ?_
  have e : L = (List.range n).filterMap (fun i => L[i]?) ++ L.drop n := by rw [take_filterMap, List.take_append_drop]
  exact (List.Perm.of_eq e).trans ((p.symm.filterMap _).append_right _)
theorem Sep.merge {H : Hp} {L : List As} {A B C : As} (s : Sep H (A :: B :: L)) (h : ∀ c1 c2, A.p c1 H → B.p c2 H → C.p (c1 ++ c2) H) : Sep H (C :: L) := by
  obtain ⟨c, h1, c1, c2, rfl, a, c3, c4, rfl, b, r⟩ := s
  exact ⟨_, h1, c1 ++ c3, c4, by rw [List.append_assoc], h c1 c3 a b, r⟩
theorem Sep.map1 {H : Hp} {L : List As} {A C : As} (s : Sep H (A :: L)) (h : ∀ c, A.p c H → C.p c H) : Sep H (C :: L) := by
  obtain ⟨c, h1, c1, c2, rfl, a, r⟩ := s
  exact ⟨_, h1, c1, c2, rfl, h c1 a, r⟩
def datA (K : PySem.W.Frag) (v : V) (d : PyData) : As := ⟨fun c H => ∀ H1, Holds H1 c → Imm H H1 → Dp K H1 v d, fun i h H1 hh i1 => h H1 hh (i.trans i1)⟩
def datsA (K : PySem.W.Frag) (vs : List V) (ds : List PyData) : As := ⟨fun c H => ∀ H1, Holds H1 c → Imm H H1 → DpAll K H1 vs ds, fun i h H1 hh i1 => h H1 hh (i.trans i1)⟩
section
variable {K : PySem.W.Frag} {H : Hp} {L : List As}
theorem Sep.dat {v : V} {d : PyData} (s : Sep H (datA K v d :: L)) : Dp K H v d := by
  obtain ⟨c, R, a, h2, _⟩ := s.open
  exact a H h2.left (.refl _)
theorem Sep.datInts {l : Addr} {xs : List Int} (s : Sep H (cellA l (.lst (xs.map V.int)) :: L)) : Sep H (datA K (.ref l) (.list (intsD xs)) :: L) :=
  s.map1 fun c e H1 hh i1 => by
    rw [show c = [(l, .lst (xs.map V.int))] from e] at hh
    exact .lst (SqL.of hh.head) (ints_dp xs)
-- W{
theorem Sep.datTalk {l : Addr} {t : List (Nat × Int)} {tv : List V} (s : Sep H (cellA l (.lst tv) :: L)) (ht : TalkAt K H t tv) : Sep H (datA K (.ref l) (.list (talkD t)) :: L) :=
  s.map1 fun c e H1 hh i1 => by
    rw [show c = [(l, .lst tv)] from e] at hh
    exact .lst (SqL.of hh.head) (talk_dp (ht.mono i1))
theorem Sep.datStk {l : Addr} {t : List (Nat × Option Nat)} {tv : List V} (s : Sep H (cellA l (.lst tv) :: L)) (ht : StkAt K H t tv) : Sep H (datA K (.ref l) (.list (stkD t)) :: L) :=
  s.map1 fun c e H1 hh i1 => by
    rw [show c = [(l, .lst tv)] from e] at hh
    exact .lst (SqL.of hh.head) (stk_dp (ht.mono i1))
-- W}
/-- a list of what is held -/
theorem Sep.datList {l : Addr} {vs : List V} {ds : List PyData} (s : Sep H (cellA l (.lst vs) :: datsA K vs ds :: L)) : Sep H (datA K (.ref l) (.list ds) :: L) :=
  s.merge fun c1 c2 e b H1 hh i1 => by
    rw [show c1 = [(l, .lst vs)] from e] at hh
    exact .lst (SqL.of hh.head) (b H1 hh.tail i1)
theorem Sep.datsNil (s : Sep H L) : Sep H (datsA K [] [] :: L) := by
  obtain ⟨c, h1, h2⟩ := s
  exact ⟨c, h1, [], c, rfl, fun H1 _ _ => .nil, h2⟩
theorem Sep.datsCons {v : V} {d : PyData} {vs : List V} {ds : List PyData} (s : Sep H (datA K v d :: datsA K vs ds :: L)) : Sep H (datsA K (v :: vs) (d :: ds) :: L) :=
  s.merge fun c1 c2 a b H1 hh i1 => .cons (a H1 hh.left i1) (b H1 hh.right i1)
theorem DpAll.app {H : Hp} : ∀ {vs us : List V} {ds es : List PyData}, DpAll K H vs ds → DpAll K H us es → DpAll K H (vs ++ us) (ds ++ es)
  | _, _, _, _, .nil, h => h
  | _, _, _, _, .cons a b, h => .cons a (DpAll.app b h)
theorem Sep.datsApp {vs us : List V} {ds es : List PyData} (s : Sep H (datsA K vs ds :: datsA K us es :: L)) : Sep H (datsA K (vs ++ us) (ds ++ es) :: L) :=
  s.merge fun c1 c2 a b H1 hh i1 => DpAll.app (a H1 hh.left i1) (b H1 hh.right i1)
theorem Sep.datsSnoc {v : V} {d : PyData} {vs : List V} {ds : List PyData} (s : Sep H (datA K v d :: datsA K vs ds :: L)) : Sep H (datsA K (vs ++ [v]) (ds ++ [d]) :: L) :=
  s.merge fun c1 c2 a b H1 hh i1 => DpAll.app (b H1 hh.right i1) (.cons (a H1 hh.left i1) .nil)
theorem Sep.datPure {v : V} {d : PyData} (s : Sep H L) (h : ∀ H1, Imm H H1 → Dp K H1 v d) : Sep H (datA K v d :: L) := by
  obtain ⟨c, h1, h2⟩ := s
  exact ⟨c, h1, [], c, rfl, fun H1 _ i => h H1 i, h2⟩
end
/-! no list, tuple in it longer than n -/
mutual
def lwD (n : Nat) : PyData → Prop
  | .list xs => xs.length ≤ n ∧ lwAll n xs
  | .tuple xs => xs.length ≤ n ∧ lwAll n xs
  | _ => True
def lwAll (n : Nat) : List PyData → Prop
  | [] => True
  | x :: r => lwD n x ∧ lwAll n r
end
theorem lwAll.get {n : Nat} : ∀ {ds : List PyData} {i : Nat} {d : PyData}, lwAll n ds → ds[i]? = some d → lwD n d
  | [], i, d, _, e => by simp at e
  | x :: r, 0, d, h, e => by simp at e; subst e; exact h.1
  | x :: r, i + 1, d, h, e => lwAll.get (i := i) h.2 (by simpa using e)
theorem lwAll_of {n : Nat} : ∀ {ds : List PyData}, (∀ d ∈ ds, lwD n d) → lwAll n ds
  | [], _ => trivial
  | x :: r, h => ⟨h x (List.mem_cons_self ..), lwAll_of fun d hd => h d (List.mem_cons_of_mem _ hd)⟩
theorem lw_ints {n : Nat} {xs : List Int} (h : xs.length ≤ n) : lwD n (.list (intsD xs)) := ⟨by rw [intsD, List.length_map]; exact h, lwAll_of fun d hd => by obtain ⟨i, _, rfl⟩ := List.mem_map.mp hd; trivial⟩
-- W{
theorem lw_talk {n : Nat} {t : List (Nat × Int)} (h : t.length ≤ n) (h2 : 2 ≤ n) : lwD n (.list (talkD t)) := ⟨by rw [talkD, List.length_map]; exact h, lwAll_of fun d hd => by
  obtain ⟨i, _, rfl⟩ := List.mem_map.mp hd
  exact ⟨h2, trivial, trivial, trivial⟩⟩
theorem lw_stk {n : Nat} {t : List (Nat × Option Nat)} (h : t.length ≤ n) (h2 : 2 ≤ n) : lwD n (.list (stkD t)) := ⟨by rw [stkD, List.length_map]; exact h, lwAll_of fun d hd => by
  obtain ⟨i, _, rfl⟩ := List.mem_map.mp hd
  refine ⟨h2, trivial, ?_, trivial⟩
  cases i.2 <;> trivial⟩
-- W}
end SD
set_option Elab.async false
set_option linter.all false
set_option maxRecDepth 100000
set_option maxHeartbeats 4000000
namespace SD
/-! ### goings with stops at the first places, by their times -/
def stopsP (P : Nat) : List (Nat × Stop) := (List.range P).map fun k => (k, ⟨k, none, none⟩)
theorem stopsP_succ (P : Nat) : stopsP (P + 1) = stopsP P ++ [(P, ⟨P, none, none⟩)] := by
  unfold stopsP
  rw [List.range_succ, List.map_append]; rfl
theorem find_stopsP {M : Mach} : ∀ P : Nat, (stopsP P).find? (fun s => s.2.meets M) = if M.place M.whose < P then some (M.place M.whose, ⟨M.place M.whose, none, none⟩) else none
  | 0 => by rw [if_neg (Nat.not_lt_zero _)]; rfl
  | P + 1 => by
    rw [stopsP_succ, List.find?_append, find_stopsP P]
    have hm : ∀ k : Nat, Stop.meets M ⟨k, none, none⟩ = decide (k = M.place M.whose) := fun k => by simp [Stop.meets]
    by_cases h : M.place M.whose < P
    · rw [if_pos h, if_pos (by omega)]; rfl
    · rw [if_neg h]
      show (List.find? (fun s => s.2.meets M) [(P, (⟨P, none, none⟩ : Stop))]) = _
      rw [List.find?_cons]
      show (match Stop.meets M ⟨P, none, none⟩ with | true => _ | false => _) = _
      rw [hm]
      by_cases h2 : P = M.place M.whose
      · rw [decide_eq_true h2, if_pos (by omega), ← h2]
      · rw [decide_eq_false h2, if_neg (by omega)]; rfl
theorem event_go {w : Wd} {P : Nat} (hs : w.stops = stopsP P) (hg : w.goal = none) :
    w.event = if w.M.isOver = true then some .over else if w.first = false ∧ w.M.place w.M.whose < P then some (.stop w.M.whose (w.M.place w.M.whose) (w.M.place w.M.whose)) else w.paused := by
  unfold Wd.event
  split
  · rfl
  · rw [hg]
    show w.rest = _
    unfold Wd.rest
    have hm : w.met = if w.M.place w.M.whose < P then some (w.M.place w.M.whose) else none := by
      unfold Wd.met
      rw [hs, find_stopsP]
      split <;> rfl
    have hr : w.reached = false := by unfold Wd.reached; rw [hg]
    rw [hm, hr]
    cases hf : w.first with
    | true => rw [if_pos rfl, if_neg (by simp)]
    | false =>
      rw [if_neg (by simp)]
      by_cases c : w.M.place w.M.whose < P
      · rw [if_pos c]; exact (if_pos (show false = false ∧ w.M.place w.M.whose < P from ⟨rfl, c⟩)).symm
      · rw [if_neg c]; exact (if_neg (show ¬ (false = false ∧ w.M.place w.M.whose < P) from fun z => c z.2)).symm
structure GoT (M : Mach) (P many : Nat) (T : Nat) (e : Ev) : Prop where
  le : T ≤ many
  live : ∀ t, t < T → (deedN t M).isOver = false ∧ (t ≠ 0 → P ≤ (deedN t M).place (deedN t M).whose) ∧ t < many
  ev : (e = .over ∧ (deedN T M).isOver = true) ∨
    (e = .stop (deedN T M).whose ((deedN T M).place (deedN T M).whose) ((deedN T M).place (deedN T M).whose) ∧ (deedN T M).isOver = false ∧ T ≠ 0 ∧ (deedN T M).place (deedN T M).whose < P) ∨
    (e = .paused (deedN T M).whose ((deedN T M).place (deedN T M).whose) ∧ (deedN T M).isOver = false ∧ T = many ∧ (T ≠ 0 → P ≤ (deedN T M).place (deedN T M).whose))
theorem go_times {w : Wd} {P : Nat} (hs : w.stops = stopsP P) (many : Nat) : ∃ T, GoT w.M P many T (w.go many).1 ∧ (w.go many).2.M = deedN T w.M := by
  unfold Wd.go
  obtain ⟨T, e, hT, h1, h2, h3⟩ := finish_on many (w := w.begin none many) rfl
  have hev : ∀ t, (onN t (w.begin none many)).event = if (deedN t w.M).isOver = true then some .over else if t ≠ 0 ∧ (deedN t w.M).place (deedN t w.M).whose < P then some (.stop (deedN t w.M).whose ((deedN t w.M).place (deedN t w.M).whose) ((deedN t w.M).place (deedN t w.M).whose)) else
      if many - t = 0 then some (.paused (deedN t w.M).whose ((deedN t w.M).place (deedN t w.M).whose)) else none := by
    intro t
    rw [event_go (P := P) (by rw [onN_stops]; exact hs) (by rw [onN_goal]; rfl), onN_M, onN_first]
    have e1 : ((w.begin none many).first && decide (t = 0)) = false ↔ t ≠ 0 := by
      show (true && decide (t = 0)) = false ↔ _
      simp
    have e3 : (onN t (w.begin none many)).paused = if many - t = 0 then some (.paused (deedN t w.M).whose ((deedN t w.M).place (deedN t w.M).whose)) else none := by
      unfold Wd.paused
      rw [onN_left, onN_M]; rfl
    rw [e3]
    simp only [e1]
    rfl
  refine ⟨T, ⟨hT, fun t ht => ?_, ?_⟩, ?_⟩
  · have := h1 t ht
    rw [hev t] at this
    by_cases c1 : (deedN t w.M).isOver = true
    · rw [if_pos c1] at this; cases this
    rw [if_neg c1] at this
    by_cases c3 : t ≠ 0 ∧ (deedN t w.M).place (deedN t w.M).whose < P
    · rw [if_pos c3] at this; cases this
    exact ⟨by simpa using c1, fun h0 => Nat.le_of_not_lt fun h => c3 ⟨h0, h⟩, by omega⟩
  · rw [h3]
    rw [hev T] at h2
    by_cases c1 : (deedN T w.M).isOver = true
    · rw [if_pos c1] at h2; exact .inl ⟨(Option.some.inj h2).symm, c1⟩
    rw [if_neg c1] at h2
    have c1' : (deedN T w.M).isOver = false := by simpa using c1
    by_cases c3 : T ≠ 0 ∧ (deedN T w.M).place (deedN T w.M).whose < P
    · rw [if_pos c3] at h2; exact .inr (.inl ⟨(Option.some.inj h2).symm, c1', c3⟩)
    rw [if_neg c3] at h2
    by_cases c4 : many - T = 0
    · rw [if_pos c4] at h2; exact .inr (.inr ⟨(Option.some.inj h2).symm, c1', by omega, fun h0 => Nat.le_of_not_lt fun h => c3 ⟨h0, h⟩⟩)
    · rw [if_neg c4] at h2; cases h2
  · rw [h3]
    exact onN_M T _
/-- one deed of a going of one deed -/
theorem go_one {w : Wd} (hs : w.stops = []) (ho : w.M.isOver = false) : (w.go 1).2.M = w.M.deed ∧ (((w.go 1).1 = .over ∧ w.M.deed.isOver = true) ∨ ((w.go 1).1 = .paused w.M.deed.whose (w.M.deed.place w.M.deed.whose) ∧ w.M.deed.isOver = false)) := by
  obtain ⟨T, S, e⟩ := go_times (w := w) (P := 0) hs 1
  have hT : T = 1 := by
    have := S.le
    rcases S.ev with ⟨_, c⟩ | ⟨_, _, _, c⟩ | ⟨_, _, c, _⟩
    · by_cases h : T = 0
      · subst h; rw [show deedN 0 w.M = w.M from rfl, ho] at c; cases c
      · omega
    · omega
    · exact c
  subst hT
  refine ⟨e, ?_⟩
  rcases S.ev with ⟨c1, c⟩ | ⟨_, _, _, c⟩ | ⟨c1, c2, _, _⟩
  · exact .inl ⟨c1, c⟩
  · exact absurd c (Nat.not_lt_zero _)
  · exact .inr ⟨c1, c2⟩
end SD
set_option Elab.async false
set_option linter.all false
set_option maxRecDepth 100000
set_option maxHeartbeats 4000000
namespace SD
open PySem PySem.Spec PyProof.Rows L2
section
variable {K : PySem.W.Frag} {w : World} {H : Hp} {L : List As} {Q : VK} {E : XK} {x : Addr} {W : Wd}
theorem use_put {c : Nat} {v : Int} (h : Sep H (watA K x W :: L)) (hc : c < W.M.held.length) (hv : Sm v) (q : ∀ H', Imm H H' → Sep H' (watA K x (W.put c v) :: L) → Q .non H') : sp_Watched_put K w [.ref x, .int (c : Nat), .int v] H Q E := by
  obtain ⟨c1, R, ⟨G, rfl, rfl, hA⟩, g2, g3⟩ := h.open
  exact ⟨G, W, R, c, v, rfl, g2, hA, hc, hv, fun H' im g4 A => q H' im (Sep.close ⟨G, rfl, rfl, A⟩ g4 (g3.mono im))⟩
theorem use_change {k deep n : Nat} {fs : List Fr} {f : Fr} {v : Int} (h : Sep H (watA K x W :: L)) (e1 : W.M.hands[k]? = some fs) (e2 : fs[deep]? = some f) (hn : n < f.names.length) (hv : Sm v) (q : ∀ H', Imm H H' → Sep H' (watA K x (W.chg k fs deep f n v) :: L) → Q .non H') :
    sp_Watched_change K w [.ref x, .int (k : Nat), .int (deep : Nat), .int (n : Nat), .int v] H Q E := by
  obtain ⟨c1, R, ⟨G, rfl, rfl, hA⟩, g2, g3⟩ := h.open
  exact ⟨G, W, R, k, deep, fs, f, n, v, rfl, g2, hA, e1, e2, hn, hv, fun H' im g4 A => q H' im (Sep.close ⟨G, rfl, rfl, A⟩ g4 (g3.mono im))⟩
end
/-! ### lists of lists of lists of numbers, held -/
def rowC : List Addr → List (List Int) → List (Addr × HO)
  | a :: r, x :: s => (a, .lst (x.map V.int)) :: rowC r s
  | _, _ => []
def blkC : List (Addr × List Addr) → List (List (List Int)) → List (Addr × HO)
  | b :: r, x :: s => (b.1, .lst (b.2.map V.ref)) :: rowC b.2 x ++ blkC r s
  | _, _ => []
def Shp : List (Addr × List Addr) → List (List (List Int)) → Prop
  | [], [] => True
  | b :: r, x :: s => b.2.length = x.length ∧ Shp r s
  | _, _ => False
theorem Shp.len : ∀ {bs : List (Addr × List Addr)} {xs : List (List (List Int))}, Shp bs xs → bs.length = xs.length
  | [], [], _ => rfl
  | b :: r, x :: s, h => by rw [List.length_cons, List.length_cons, Shp.len h.2]
  | [], _ :: _, h => h.elim
  | _ :: _, [], h => h.elim
theorem Shp.snoc : ∀ {bs : List (Addr × List Addr)} {xs : List (List (List Int))} {b : Addr × List Addr} {x : List (List Int)}, Shp bs xs → b.2.length = x.length → Shp (bs ++ [b]) (xs ++ [x])
  | [], [], b, x, _, h => ⟨h, trivial⟩
  | b :: r, x :: s, _, _, h, h2 => ⟨h.1, Shp.snoc h.2 h2⟩
  | [], _ :: _, _, _, h, _ => h.elim
  | _ :: _, [], _, _, h, _ => h.elim
theorem rowC_snoc : ∀ {as : List Addr} {xs : List (List Int)} {a : Addr} {x : List Int}, as.length = xs.length → rowC (as ++ [a]) (xs ++ [x]) = rowC as xs ++ [(a, .lst (x.map V.int))]
  | [], [], a, x, _ => rfl
  | a :: r, x :: s, _, _, h => by
    show _ :: rowC (r ++ [_]) (s ++ [_]) = _
    rw [rowC_snoc (by simpa using h)]; rfl
  | [], _ :: _, _, _, h => by simp at h
  | _ :: _, [], _, _, h => by simp at h
theorem blkC_snoc : ∀ {bs : List (Addr × List Addr)} {xs : List (List (List Int))} {b : Addr × List Addr} {x : List (List Int)}, Shp bs xs → blkC (bs ++ [b]) (xs ++ [x]) = blkC bs xs ++ ((b.1, .lst (b.2.map V.ref)) :: rowC b.2 x)
  | [], [], b, x, _ => by show _ :: rowC _ _ ++ [] = _; rw [List.append_nil]; rfl
  | b :: r, x :: s, _, _, h => by
    show _ :: rowC _ _ ++ blkC (r ++ [_]) (s ++ [_]) = _
    rw [blkC_snoc h.2]
    show _ = _ :: rowC _ _ ++ blkC r s ++ _
    rw [List.append_assoc]
  | [], _ :: _, _, _, h => h.elim
  | _ :: _, [], _, _, h => h.elim
theorem rowC_split : ∀ {as : List Addr} {xs : List (List Int)} {d : Nat} {a : Addr} {x : List Int}, as[d]? = some a → xs[d]? = some x → ∃ R1 R2, rowC as xs = R1 ++ (a, .lst (x.map V.int)) :: R2 ∧ ∀ y, rowC as (xs.set d y) = R1 ++ (a, .lst (y.map V.int)) :: R2
  | [], _, _, _, _, e, _ => by simp at e
  | _ :: _, [], _, _, _, _, e => by simp at e
  | a :: r, x :: s, 0, _, _, e1, e2 => by
    simp at e1 e2; subst e1; subst e2
    exact ⟨[], rowC r s, rfl, fun y => rfl⟩
  | a :: r, x :: s, d + 1, _, _, e1, e2 => by
    obtain ⟨R1, R2, h1, h2⟩ := rowC_split (as := r) (xs := s) (d := d) (by simpa using e1) (by simpa using e2)
    exact ⟨(a, .lst (x.map V.int)) :: R1, R2, by show _ :: rowC r s = _; rw [h1]; rfl, fun y => by show _ :: rowC r (s.set d y) = _; rw [h2]; rfl⟩
theorem blkC_split : ∀ {bs : List (Addr × List Addr)} {xs : List (List (List Int))} {h : Nat} {b : Addr × List Addr} {x : List (List Int)}, bs[h]? = some b → xs[h]? = some x → ∃ R1 R2, blkC bs xs = R1 ++ ((b.1, .lst (b.2.map V.ref)) :: rowC b.2 x) ++ R2 ∧ ∀ y, blkC bs (xs.set h y) = R1 ++ ((b.1, .lst (b.2.map V.ref)) :: rowC b.2 y) ++ R2
  | [], _, _, _, _, e, _ => by simp at e
  | _ :: _, [], _, _, _, _, e => by simp at e
  | a :: r, x :: s, 0, _, _, e1, e2 => by
    simp at e1 e2; subst e1; subst e2
    exact ⟨[], blkC r s, rfl, fun y => rfl⟩
  | a :: r, x :: s, d + 1, _, _, e1, e2 => by
    obtain ⟨R1, R2, h1, h2⟩ := blkC_split (bs := r) (xs := s) (h := d) (by simpa using e1) (by simpa using e2)
    refine ⟨((a.1, .lst (a.2.map V.ref)) :: rowC a.2 x) ++ R1, R2, ?_, fun y => ?_⟩
    · show _ :: rowC _ _ ++ blkC r s = _
      rw [h1]; simp only [List.append_assoc, List.cons_append]
    · show _ :: rowC _ _ ++ blkC r (s.set d y) = _
      rw [h2]; simp only [List.append_assoc, List.cons_append]
theorem Shp.set : ∀ {bs : List (Addr × List Addr)} {xs : List (List (List Int))} {h : Nat} {x y : List (List Int)}, Shp bs xs → xs[h]? = some x → y.length = x.length → Shp bs (xs.set h y)
  | [], [], _, _, _, _, e, _ => by simp at e
  | b :: r, x :: s, 0, _, _, h, e, l => by simp at e; subst e; exact ⟨h.1.trans l.symm, h.2⟩
  | b :: r, x :: s, d + 1, _, _, h, e, l => ⟨h.1, Shp.set (h := d) h.2 (by simpa using e) l⟩
  | [], _ :: _, _, _, _, h, _, _ => h.elim
  | _ :: _, [], _, _, _, h, _, _ => h.elim
theorem Shp.get : ∀ {bs : List (Addr × List Addr)} {xs : List (List (List Int))} {h : Nat} {x : List (List Int)}, Shp bs xs → xs[h]? = some x → ∃ b, bs[h]? = some b ∧ b.2.length = x.length
  | [], [], _, _, _, e => by simp at e
  | b :: r, x :: s, 0, _, h, e => by simp at e; subst e; exact ⟨b, rfl, h.1⟩
  | b :: r, x :: s, d + 1, _, h, e => by
    obtain ⟨c, h1, h2⟩ := Shp.get (h := d) h.2 (by simpa using e)
    exact ⟨c, by simpa using h1, h2⟩
  | [], _ :: _, _, _, h, _ => h.elim
  | _ :: _, [], _, _, h, _ => h.elim
def rowA (as : List Addr) (xs : List (List Int)) : As := ⟨fun c _ => as.length = xs.length ∧ c = rowC as xs, fun _ h => h⟩
def blkA (bs : List (Addr × List Addr)) (xs : List (List (List Int))) : As := ⟨fun c _ => Shp bs xs ∧ c = blkC bs xs, fun _ h => h⟩
/-- the whole -/
def nstA (l : Addr) (bs : List (Addr × List Addr)) (xs : List (List (List Int))) : As := ⟨fun c _ => Shp bs xs ∧ c = (l, .lst (bs.map fun b => V.ref b.1)) :: blkC bs xs, fun _ h => h⟩
section
variable {K : PySem.W.Frag} {H : Hp} {L : List As}
theorem Sep.rowNil (s : Sep H L) : Sep H (rowA [] [] :: L) := by
  obtain ⟨c, h1, h2⟩ := s
  exact ⟨c, h1, [], c, rfl, ⟨rfl, rfl⟩, h2⟩
theorem Sep.blkNil (s : Sep H L) : Sep H (blkA [] [] :: L) := by
  obtain ⟨c, h1, h2⟩ := s
  exact ⟨c, h1, [], c, rfl, ⟨trivial, rfl⟩, h2⟩
theorem Sep.rowSnoc {as : List Addr} {xs : List (List Int)} {a : Addr} {x : List Int} (s : Sep H (rowA as xs :: cellA a (.lst (x.map V.int)) :: L)) : Sep H (rowA (as ++ [a]) (xs ++ [x]) :: L) :=
  s.merge fun c1 c2 ⟨e, e1⟩ e2 => by
    rw [show c2 = [(a, .lst (x.map V.int))] from e2, e1]
    exact ⟨by rw [List.length_append, List.length_append, e]; rfl, (rowC_snoc e).symm⟩
theorem Sep.blkSnoc {bs : List (Addr × List Addr)} {xs : List (List (List Int))} {as : List Addr} {x : List (List Int)} {b : Addr} (s : Sep H (blkA bs xs :: cellA b (.lst (as.map V.ref)) :: rowA as x :: L)) : Sep H (blkA (bs ++ [(b, as)]) (xs ++ [x]) :: L) := by
  obtain ⟨c, h1, c1, c2, rfl, ⟨e1, rfl⟩, c3, c4, rfl, e3, c5, c6, rfl, ⟨e5, rfl⟩, r⟩ := s
  refine ⟨_, h1, blkC bs xs ++ (c3 ++ rowC as x), c6, by simp only [List.append_assoc], ⟨e1.snoc e5, ?_⟩, r⟩
  rw [show c3 = [(b, .lst (as.map V.ref))] from e3, blkC_snoc e1]; rfl
theorem Sep.nst {l : Addr} {bs : List (Addr × List Addr)} {xs : List (List (List Int))} (s : Sep H (cellA l (.lst (bs.map fun b => V.ref b.1)) :: blkA bs xs :: L)) : Sep H (nstA l bs xs :: L) :=
  s.merge fun c1 c2 e ⟨e1, e2⟩ => ⟨e1, by rw [show c1 = [(l, .lst (bs.map fun b => V.ref b.1))] from e, e2]; rfl⟩
theorem Sep.nstL {l : Addr} {bs : List (Addr × List Addr)} {xs : List (List (List Int))} (s : Sep H (nstA l bs xs :: L)) : H l = some (.lst (bs.map fun b => V.ref b.1)) ∧ Shp bs xs := by
  obtain ⟨c, R, ⟨e, rfl⟩, h2, _⟩ := s.open
  exact ⟨h2.head, e⟩
theorem Sep.nstGet {l : Addr} {bs : List (Addr × List Addr)} {xs : List (List (List Int))} {h : Nat} {x : List (List Int)} (s : Sep H (nstA l bs xs :: L)) (e : xs[h]? = some x) : ∃ b, bs[h]? = some b ∧ b.2.length = x.length ∧ (bs.map fun b => V.ref b.1)[h]? = some (.ref b.1) ∧ H b.1 = some (.lst (b.2.map V.ref)) := by
  obtain ⟨c, R, ⟨sh, rfl⟩, h2, _⟩ := s.open
  obtain ⟨b, e1, e2⟩ := sh.get e
  obtain ⟨R1, R2, q1, _⟩ := blkC_split e1 e
  refine ⟨b, e1, e2, by rw [List.getElem?_map, e1]; rfl, h2.get ?_⟩
  rw [q1]; simp
theorem Sep.nstSet {l : Addr} {bs : List (Addr × List Addr)} {xs : List (List (List Int))} {h d : Nat} {x : List (List Int)} {y : List Int} {b : Addr × List Addr} (s : Sep H (nstA l bs xs :: L)) (e : xs[h]? = some x) (e2 : x[d]? = some y) (b1 : bs[h]? = some b) :
    ∃ a, b.2[d]? = some a ∧ (b.2.map V.ref)[d]? = some (.ref a) ∧ H a = some (.lst (y.map V.int)) ∧
      ∀ z : List Int, Imm H (upd H a (.lst (z.map V.int))) ∧ Sep (upd H a (.lst (z.map V.int))) (nstA l bs (xs.set h (x.set d z)) :: L) := by
  obtain ⟨c, R, ⟨sh, rfl⟩, h2, h3⟩ := s.open
  have b2 : b.2.length = x.length := by
    obtain ⟨b', b1', b2⟩ := sh.get e
    rw [b1] at b1'; cases b1'; exact b2
  obtain ⟨R1, R2, q1, q2⟩ := blkC_split b1 e
  have hd : d < b.2.length := by rw [b2]; exact (List.getElem?_eq_some_iff.mp e2).1
  have ea : b.2[d]? = some b.2[d] := List.getElem?_eq_getElem hd
  generalize b.2[d] = a at ea
  obtain ⟨R3, R4, p1, p2⟩ := rowC_split ea e2
  have pm : ∀ z : List Int, ((l, HO.lst (bs.map fun b => V.ref b.1)) :: blkC bs (xs.set h (x.set d z)) ++ R) = ((l, HO.lst (bs.map fun b => V.ref b.1)) :: R1 ++ (b.1, HO.lst (b.2.map V.ref)) :: R3) ++ (a, .lst (z.map V.int)) :: (R4 ++ R2 ++ R) := fun z => by
    rw [q2, p2]; simp only [List.append_assoc, List.cons_append]
  have p0 : ((l, HO.lst (bs.map fun b => V.ref b.1)) :: blkC bs xs ++ R) = ((l, HO.lst (bs.map fun b => V.ref b.1)) :: R1 ++ (b.1, HO.lst (b.2.map V.ref)) :: R3) ++ (a, .lst (y.map V.int)) :: (R4 ++ R2 ++ R) := by
    rw [q1, p1]; simp only [List.append_assoc, List.cons_append]
  have h4 := h2
  rw [p0] at h4
  have h5 := h4.perm List.perm_middle
  refine ⟨a, ea, by rw [List.getElem?_map, ea]; rfl, h5.head, fun z => ?_⟩
  have im : Imm H (upd H a (.lst (z.map V.int))) := Imm.upd h5.head rfl
  refine ⟨im, ?_⟩
  have h6 := (h5.upd (o' := .lst (z.map V.int))).perm List.perm_middle.symm
  rw [← pm] at h6
  exact Sep.close (c := (l, HO.lst (bs.map fun b => V.ref b.1)) :: blkC bs (xs.set h (x.set d z))) ⟨sh.set e (by rw [List.length_set]), rfl⟩ h6 (h3.mono im)
theorem take_sn {α : Type} {l : List α} {n : Nat} {x : α} (e : l[n]? = some x) : l.take (n + 1) = l.take n ++ [x] := by rw [List.take_add_one, e]; rfl
theorem w_listOf {a : Addr} {xs : List V} {Q : VK} (hS : Sep H L) (f : SqL K H a xs) (q : ∀ p H', Imm H H' → Sep H' (cellA p (.lst xs) :: L) → Q (.ref p) H') : rListOf K [.ref a] H Q :=
  ⟨a, xs, rfl, .inl f, fun p hp => q p _ (Imm.new hp) (hS.new hp)⟩
theorem w_ifH {t : TS} {c : Bool} {D : Ends} {σ : L2.St} (P : Hp → Prop) (ht : c = true → ∀ nx : L2.St → Hp → Prop, (∀ H', P H' → nx σ H') → t { D with nx := nx } σ H) (hf : c = false → P H) (hu : ∀ H', P H' → D.nx σ H') : if c = true then t D σ H else tNext D σ H := by
  cases c with
  | true => exact iteT (ht rfl D.nx hu)
  | false => exact iteF (hu H (hf rfl))
def rowsD (x : List (List Int)) : List PyData := x.map fun y => .list (intsD y)
def nstD (xs : List (List (List Int))) : PyData := .list (xs.map fun x => .list (rowsD x))
theorem flat_nst (xs : List (List (List Int))) : Flat 3 (nstD xs) := .list fun d hd => by
  obtain ⟨x, _, rfl⟩ := List.mem_map.mp hd
  refine .list fun d hd => ?_
  obtain ⟨y, _, rfl⟩ := List.mem_map.mp hd
  exact flat_ints y
theorem row_dp : ∀ {as : List Addr} {xs : List (List Int)}, as.length = xs.length → (∀ p ∈ rowC as xs, H p.1 = some p.2) → DpAll K H (as.map V.ref) (rowsD xs)
  | [], [], _, _ => .nil
  | a :: r, x :: s, e, h => .cons (.lst (SqL.of (h (a, .lst (x.map V.int)) (List.mem_cons_self ..))) (ints_dp x)) (row_dp (by simpa using e) fun p hp => h p (List.mem_cons_of_mem _ hp))
  | [], _ :: _, e, _ => by simp at e
  | _ :: _, [], e, _ => by simp at e
theorem blk_dp : ∀ {bs : List (Addr × List Addr)} {xs : List (List (List Int))}, Shp bs xs → (∀ p ∈ blkC bs xs, H p.1 = some p.2) → DpAll K H (bs.map fun b => V.ref b.1) (xs.map fun x => .list (rowsD x))
  | [], [], _, _ => .nil
  | b :: r, x :: s, e, h => .cons (.lst (SqL.of (h (b.1, .lst (b.2.map V.ref)) (List.mem_append_left _ (List.mem_cons_self ..)))) (row_dp e.1 fun p hp => h p (List.mem_append_left _ (List.mem_cons_of_mem _ hp)))) (blk_dp e.2 fun p hp => h p (List.mem_append_right _ hp))
  | [], _ :: _, e, _ => e.elim
  | _ :: _, [], e, _ => e.elim
theorem Sep.nstDp {l : Addr} {bs : List (Addr × List Addr)} {xs : List (List (List Int))} (s : Sep H (nstA l bs xs :: L)) : Dp K H (.ref l) (nstD xs) := by
  obtain ⟨c, R, ⟨sh, rfl⟩, h2, _⟩ := s.open
  exact .lst (SqL.of h2.head) (blk_dp sh fun p hp => h2.get (List.mem_append_left _ (List.mem_cons_of_mem _ hp)))
end
end SD
set_option Elab.async false
set_option linter.all false
set_option maxRecDepth 100000
set_option maxHeartbeats 4000000
namespace SD
open PySem PySem.Spec PyProof.Rows L2
/-! ### goings in a row; changes, plainly -/
theorem runN_ov : ∀ (n : Nat) {M : Mach}, M.isOver = true → runN n M = M
  | 0, M, h => rfl
  | n + 1, M, h => by unfold runN; rw [if_pos h]
theorem runN_add : ∀ (a b : Nat) (M : Mach), runN (a + b) M = runN b (runN a M)
  | 0, b, M => by rw [Nat.zero_add]; rfl
  | a + 1, b, M => by
    by_cases h : M.isOver = true
    · rw [runN_ov _ h, runN_ov _ h, runN_ov _ h]
    · rw [show a + 1 + b = (a + b) + 1 by omega]
      show (if M.isOver = true then M else runN (a + b) M.deed) = runN b (if M.isOver = true then M else runN a M.deed)
      rw [if_neg h, if_neg h, runN_add a b]
theorem runN_deedN : ∀ (n T : Nat) (M : Mach), T ≤ n → (∀ t, t < T → (deedN t M).isOver = false) → ((deedN T M).isOver = true ∨ T = n) → runN n M = deedN T M
  | 0, T, M, h, _, _ => by rw [Nat.le_zero.mp h]; rfl
  | n + 1, 0, M, _, _, e => by
    rcases e with e | e
    · exact runN_ov _ e
    · cases e
  | n + 1, T + 1, M, h, l, e => by
    show (if M.isOver = true then M else runN n M.deed) = deedN T M.deed
    have this : M.isOver = false := l 0 (Nat.succ_pos _)
    rw [if_neg (by rw [this]; simp)]
    refine runN_deedN n T M.deed (by omega) (fun t ht => l (t + 1) (by omega)) ?_
    rcases e with e | e
    · exact .inl e
    · exact .inr (by omega)
def goW (W : Wd) (many : Nat) : Wd := if W.M.isOver = false then (W.go many).2 else W
theorem goW_M {W : Wd} (hs : W.stops = []) (many : Nat) : (goW W many).M = runN many W.M := by
  unfold goW
  split
  · obtain ⟨T, S, e⟩ := go_times (w := W) (P := 0) hs many
    rw [e]
    refine (runN_deedN many T W.M S.le (fun t ht => (S.live t ht).1) ?_).symm
    rcases S.ev with ⟨_, c⟩ | ⟨_, _, _, c⟩ | ⟨_, _, c, _⟩
    · exact .inl c
    · exact absurd c (Nat.not_lt_zero _)
    · exact .inr c
  · rename_i h; exact (runN_ov _ (by simpa using h)).symm
theorem doDeed_talk (M : Mach) (me : Nat) (f : Fr) (r : List Fr) (d : ND) : M.talk <+: (doDeed M me f r d).2.2 := by
  unfold doDeed
  split <;> first
    | exact List.prefix_refl _
    | exact List.prefix_append _ _
    | (split <;> exact List.prefix_refl _)
theorem deed_talk (M : Mach) : M.talk <+: M.deed.talk := by
  unfold Mach.deed
  split
  · split
    · exact doDeed_talk ..
    · exact List.prefix_refl _
  · exact List.prefix_refl _
theorem run_talk : ∀ (n : Nat) (M : Mach), M.talk <+: (runN n M).talk
  | 0, M => List.prefix_refl _
  | n + 1, M => by
    by_cases h : M.isOver = true
    · rw [runN_ov _ h]; exact List.prefix_refl _
    · show _ <+: (if M.isOver = true then M else runN n M.deed).talk
      rw [if_neg h]
      exact (deed_talk M).trans (run_talk n M.deed)
theorem run_take {M : Mach} {n : Nat} : (runN n M).talk.take M.talk.length = M.talk := (List.prefix_iff_eq_take.mp (run_talk n M)).symm
/-! changes -/
theorem set_same {α : Type} {l : List α} {k : Nat} {x : α} (e : l[k]? = some x) : l.set k x = l := by
  refine List.ext_getElem? fun i => ?_
  rw [List.getElem?_set]
  split
  · rename_i h; subst h; rw [if_pos (List.getElem?_eq_some_iff.mp e).1, e]
  · rfl
abbrev Fr.named (f : Fr) (n : Nat) (v : Int) : Fr := { f with names := f.names.set n v }
theorem settle1_set {fs : List Fr} {j : Nat} {f : Fr} (e : fs[j]? = some f) (f' : Fr) (ht : f'.todo = f.todo) (h : settle1 fs = none) : settle1 (fs.set j f') = none := by
  cases fs with
  | nil => simp at e
  | cons y r =>
    cases j with
    | zero =>
      simp at e; subst e
      show settle1 (f' :: r) = none
      simp only [settle1] at h ⊢
      rw [ht]
      cases hh : y.todo with
      | nil => simp [hh] at h
      | cons t ts => cases t <;> simp [hh] at h ⊢
    | succ j =>
      show settle1 (y :: r.set j f') = none
      simp only [settle1] at h ⊢
      cases hh : y.todo with
      | nil => simp [hh] at h
      | cons t ts => cases t <;> simp [hh] at h ⊢
theorem setOk_set {fs : List Fr} {j : Nat} {f : Fr} (e : fs[j]? = some f) (f' : Fr) (ht : f'.todo = f.todo) (hn : f'.names.length = f.names.length) (h : SetOk fs) : SetOk (fs.set j f') := by
  cases fs with
  | nil => simp at e
  | cons y r =>
    cases j with
    | zero =>
      simp at e; subst e
      exact ⟨by rw [ht]; exact h.1, by rw [ht]; exact h.2.1, h.2.2⟩
    | succ j =>
      refine ⟨h.1, h.2.1, fun g hg => ?_⟩
      rcases List.mem_or_eq_of_mem_set hg with q | rfl
      · exact h.2.2 g q
      · obtain ⟨a, k, rest, b, c, d⟩ := h.2.2 f (List.mem_of_getElem? (by simpa using e))
        exact ⟨by rw [ht]; exact a, k, rest, ht.trans b, by rw [hn]; exact c, d⟩
theorem all_emp (hs : List (List Fr)) : hs.all (·.isEmpty) = (hs.map (·.isEmpty)).all id := by rw [List.all_map]; rfl
theorem getD_emp (hs : List (List Fr)) (i : Nat) : (hs.getD i []).isEmpty = (hs.map (·.isEmpty)).getD i true := by
  rw [List.getD_eq_getElem?_getD, List.getD_eq_getElem?_getD, List.getElem?_map]
  cases hs[i]? <;> rfl
section
variable {W : Wd} {k deep n : Nat} {fs : List Fr} {f : Fr} {v : Int}
theorem WOk.chg (o : WOk W) (e1 : W.M.hands[k]? = some fs) (e2 : fs[deep]? = some f) (hv : Sm v) : WOk (W.chg k fs deep f n v) := by
  have hm := o.M.hs fs (List.mem_of_getElem? e1)
  have em : (W.M.hands.set k (fs.set deep (f.named n v))).map (·.isEmpty) = W.M.hands.map (·.isEmpty) := by
    rw [List.map_set]
    refine set_same ?_
    rw [List.getElem?_map, e1]
    show some _ = some _
    congr 1
    cases fs with
    | nil => simp at e2
    | cons y r => cases deep <;> rfl
  have M' : MOk (W.chg k fs deep f n v).M := by
    refine ⟨o.M.bd, o.M.c, o.M.c8, ?_, ?_, fun fs' hfs => ?_, ?_, o.M.tk⟩
    · show 1 ≤ (List.set ..).length; rw [List.length_set]; exact o.M.h1
    · show (List.set ..).length ≤ 3; rw [List.length_set]; exact o.M.h3
    · rcases List.mem_or_eq_of_mem_set hfs with q | rfl
      · exact o.M.hs _ q
      · refine ⟨setOk_set e2 _ rfl (List.length_set ..) hm.1, fun g hg => ?_, by rw [List.length_set]; exact hm.2.2.1, settle1_set e2 _ rfl hm.2.2.2⟩
        rcases List.mem_or_eq_of_mem_set hg with q | rfl
        · exact hm.2.1 g q
        · exact (hm.2.1 f (List.mem_of_getElem? e2)).name hv
    · show _ < (List.set ..).length; rw [List.length_set]; exact o.M.wh
  refine ⟨o.W, M', fun ho => ?_, o.heads, o.pf, o.cells, o.few, o.asc, o.low, o.wish, fun g hg => ?_⟩
  · show ((W.M.hands.set k (fs.set deep (f.named n v))).getD W.M.whose []).isEmpty = false
    rw [getD_emp, em, ← getD_emp]
    refine o.nx ?_
    have ho : (W.M.hands.set k (fs.set deep (f.named n v))).all (·.isEmpty) = false := ho
    rw [all_emp, em, ← all_emp] at ho
    exact ho
  · show g.1 < (List.set ..).length; rw [List.length_set]; exact o.goal g hg
theorem chg_back {old : Int} (e1 : W.M.hands[k]? = some fs) (e2 : fs[deep]? = some f) (en : f.names[n]? = some old) : (W.chg k fs deep f n v).chg k (fs.set deep (f.named n v)) deep (f.named n v) n old = W := by
  unfold Wd.chg
  simp only [List.set_set]
  rw [set_same en]
  show ({ W with M := { W.M with hands := W.M.hands.set k (fs.set deep f) } } : Wd) = W
  rw [set_same e2, set_same e1]
def nms (M : Mach) : List (List (List Int)) := M.hands.map fun fs => fs.map (·.names)
theorem nms_chg : nms (W.chg k fs deep f n v).M = (nms W.M).set k ((fs.map (·.names)).set deep (f.names.set n v)) := by
  show (List.set ..).map _ = _
  rw [List.map_set, List.map_set]; rfl
end
/-! cells put one by one -/
def putW (W : Wd) (new : List Int) (i : Nat) : Wd := { W with M := { W.M with held := new.take i ++ W.M.held.drop i } }
theorem putW_succ {W : Wd} {new : List Int} {i : Nat} {v : Int} (e : new[i]? = some v) (hl : i < W.M.held.length) : (putW W new i).put i v = putW W new (i + 1) := by
  have h1 : i < new.length := (List.getElem?_eq_some_iff.mp e).1
  have : (new.take i ++ W.M.held.drop i).set i v = new.take (i + 1) ++ W.M.held.drop (i + 1) := by
    rw [take_sn e, List.drop_eq_getElem_cons hl, List.set_append_right _ _ (by rw [List.length_take]; omega), List.length_take, Nat.min_eq_left (by omega), Nat.sub_self, List.append_assoc]; rfl
  show ({ putW W new i with M := { (putW W new i).M with held := (new.take i ++ W.M.held.drop i).set i v } } : Wd) = _
  rw [this]; rfl
def Prog.by (p : Prog) (new : List Int) : Prog := { p with cells := new }
theorem Prog.by_wf {p : Prog} (W : p.Wf) {new : List Int} (hl : new.length = p.cells.length) (hr : Rng new) : (p.by new).Wf :=
  ⟨by show 1 ≤ new.length; rw [hl]; exact W.cells1, by show new.length ≤ 8; rw [hl]; exact W.cells8, fun c hc => hr c hc, W.funs1, W.funs4, W.names, W.hands1, W.hands3, W.handsR, fun f hf => by show wfDs f.names new.length p.params f.body = true; rw [hl]; exact W.bodies f hf, W.deep, W.size⟩
theorem putW_end {p : Prog} {new : List Int} (hl : new.length = p.cells.length) : (putW (Wd.init p) new p.cells.length).M = (p.by new).mach := by
  show ({ p.mach with held := new.take p.cells.length ++ p.cells.drop p.cells.length } : Mach) = _
  rw [List.take_of_length_le (by omega), List.drop_length, List.append_nil]; rfl
theorem putW_ok {p : Prog} (W : p.Wf) {new : List Int} (hl : new.length = p.cells.length) (hr : Rng new) : WOk (putW (Wd.init p) new p.cells.length) := by
  have e := putW_end (p := p) hl
  have W' := Prog.by_wf W hl hr
  have o := Prog.wd_ok W
  refine ⟨W, by rw [e]; exact Prog.mach_ok W', by rw [e]; exact Prog.mach_nx W', rfl, rfl, ?_, o.few, o.asc, o.low, o.wish, o.goal⟩
  rw [e]; exact hl
theorem Talk.take {K : PySem.W.Frag} {H : Hp} : ∀ {t : List (Nat × Int)} {v : List V} (n : Nat), TalkAt K H t v → TalkAt K H (t.take n) (v.take n)
  | [], v, n, h => by rw [show v = [] from h, List.take_nil, List.take_nil]; rfl
  | x :: r, v, 0, h => rfl
  | x :: r, v, n + 1, ⟨a, s, e, h, h1⟩ => by rw [e]; exact ⟨a, s.take n, rfl, h, Talk.take n h1⟩
theorem cut_to (xs : List V) (n : Nat) : cutV xs none (some (n : Nat)) = xs.take n := by
  unfold cutV
  rw [HT.sIx_none, show HT.sIx xs.length xs.length (some ((n : Nat) : Int)) = min n xs.length from HT.sIx_nat xs.length xs.length n, List.drop_zero, Nat.sub_zero]
  rcases Nat.lt_or_ge xs.length n with h | h
  · rw [Nat.min_eq_right (by omega), List.take_of_length_le (Nat.le_refl _), List.take_of_length_le (by omega)]
  · rw [Nat.min_eq_left h]
end SD
set_option Elab.async false
set_option linter.all false
set_option maxRecDepth 100000
set_option maxHeartbeats 4000000
namespace SD
--@L law_k07_whole_changes_are_as_told
open PySem PySem.Spec PyProof.Rows L2
local macro_rules | `(tactic| walk_at "s1") => `(tactic| first
  | with_reducible refine w_nT ?_
  | with_reducible refine w_nF ?_
  | with_reducible refine w_frzS ?_
  | with_reducible refine w_seq ?_
  | with_reducible refine w_next ?_
  | with_reducible refine w_asg ?_
  | with_reducible refine w_drop ?_
  | with_reducible refine w_ret ?_
  | with_reducible refine w_retN ?_
  | with_reducible refine w_ifs ?_
  | with_reducible refine w_par ?_
  | with_reducible refine w_c ?_
  | with_reducible refine w_nil ?_
  | with_reducible refine w_cons ?_
  | with_reducible refine w_op ?_
  | with_reducible refine w_un ?_
  | with_reducible refine w_rI0 ?_
  | with_reducible refine w_rU ?_
  | with_reducible refine w_test ?_
  | with_reducible refine w_b ?_
  | with_reducible refine w_bl ?_
  | with_reducible refine w_and ?_
  | with_reducible refine w_or ?_
  | with_reducible refine w_not ?_
  | with_reducible refine w_andV ?_
  | with_reducible refine w_orV ?_
  | with_reducible refine w_notV ?_
  | with_reducible refine w_if ?_
  | with_reducible refine w_chain ?_
  | with_reducible refine w_eqI ?_
  | with_reducible refine w_neI ?_
  | with_reducible refine w_eqS ?_
  | with_reducible refine w_neS ?_
  | with_reducible refine w_pcons ?_
  | with_reducible refine w_pnil ?_
  | with_reducible refine w_dget ?_
  | with_reducible refine w_dget2 ?_
  | with_reducible refine w_dput ?_
  | with_reducible refine w_neB ?_
  | with_reducible refine w_eqB ?_
  | with_reducible refine w_isNb ?_
  | with_reducible refine w_isNs ?_
  | with_reducible refine w_min ?_
  | with_reducible refine w_max ?_
  | with_reducible refine w_isNn ?_
  | with_reducible refine w_isNi ?_
  | with_reducible refine w_isNr ?_
  | with_reducible refine w_notNn ?_
  | with_reducible refine w_notNi ?_
  | with_reducible refine w_notNr ?_
  | with_reducible refine w_call ?_
  | with_reducible refine w_cb ?_
  | with_reducible refine w_meth ?_
  | with_reducible refine w_make ?_
  | with_reducible refine w_tup ?_
  | with_reducible refine w_lst ?_
  | with_reducible refine w_int1b ?_
  | with_reducible refine w_int1 ?_
  | with_reducible refine w_gNil ?_
  | with_reducible refine w_gCons ?_
  | with_reducible refine w_gSub ?_
  | with_reducible refine w_bm ?_
  | with_reducible refine w_sl ?_
  | with_reducible refine w_part ?_
  | with_reducible refine w_partI ?_
  | with_reducible refine w_noPart ?_
  | with_reducible refine w_for ?_
  | with_reducible refine w_lc ?_
  | with_reducible refine w_rng1 ?_
  | with_reducible refine w_iList ?_
  | with_reducible refine w_iTup ?_
  | with_reducible refine w_break ?_
  | with_reducible refine w_cont ?_
  | ((with_reducible refine' w_var ?h ?_); (case h => exact rfl))
  | ((with_reducible refine' w_gName ?h ?_); (case h => (simp only [wipe, List.set]; rfl)))
  | ((with_reducible refine' w_par2 ?h ?_); (case h => (simp only [wipe, List.set]; rfl)))
  | ((with_reducible refine' w_mod ?h ?_); (case h => omega))
  | ((with_reducible refine' w_mul ?h ?_); (case h => omega))
  | ((with_reducible refine' w_rng1I ?h ?_); (case h => omega))
  | with_reducible refine iteT ?_
  | with_reducible refine iteF ?_
  | ((with_reducible refine' iteDT ?h ?_); (case h => omega))
  | ((with_reducible refine' iteDF ?h ?_); (case h => omega))
  | ((with_reducible refine' iteNT ?h ?_); (case h => omega))
  | ((with_reducible refine' iteNF ?h ?_); (case h => omega))
  | ((with_reducible refine' iteDT ?h ?_); (case h => decide +kernel))
  | ((with_reducible refine' iteDF ?h ?_); (case h => decide +kernel))
  | ((with_reducible refine' iteNT ?h ?_); (case h => decide +kernel))
  | ((with_reducible refine' iteNF ?h ?_); (case h => decide +kernel))
  | fail "stop")
local macro_rules | `(tactic| walk_at "st") => `(tactic| (walk_at "s1"; repeat' walk_at "s1"))
def frN (fs : List Fr) : List (List Int) := fs.map (·.names)
theorem frN_len (fs : List Fr) : (frN fs).length = fs.length := List.length_map ..
theorem goW_ok {W : Wd} (o : WOk W) (many : Nat) : WOk (goW W many) ∧ (goW W many).stops = W.stops ∧ (goW W many).M.done ≤ W.M.done + many ∧ (goW W many).M.hands.length = W.M.hands.length := by
  unfold goW
  split
  · obtain ⟨h1, h2, h3, h4, h5, h6⟩ := o.go (m := many)
    exact ⟨h1, h5, h2, h3⟩
  · exact ⟨o, rfl, Nat.le_add_right _ _, rfl⟩
/-! ### _law_names -/
def sp_law_names (K : PySem.W.Frag) (w : World) : Sp := fun vs H Q _ => ∃ (x : Addr) (W : Wd) (n : Nat) (L : List As), vs = [.ref x, .int (n : Nat)] ∧ WOk W ∧ n = W.M.hands.length ∧ Sep H (watA K x W :: L) ∧
  ∀ H' l bs, Imm H H' → Sep H' (nstA l bs (nms W.M) :: watA K x W :: L) → Q (.ref l) H'
abbrev n_f_law_names : List Str := ["_law_watched", "_law_hands", "_law_deep", "_law_hand"]
def t_f_law_names (K : PySem.W.Frag) (w : World)  : TS :=
 (tRet (tLc (iRng1 (tCons (tVar 1) tNil)) (gName 3) tYes (tLc (iRng1 (tCons (tCB (rLenS' K) (tCons (tMeth (He.ga K "Watched") "stack" (sp_Watched_stack K w) [] E0 (tVar 0) (tCons (tVar 3) tNil)) tNil)) tNil)) (gName 2) tYes (tMeth (He.ga K "Watched") "look" (sp_Watched_look K w) [] E0 (tVar 0) (tCons (tVar 3) (tCons (tVar 2) tNil))) [2]) [3]))
theorem st_f_law_names {x0 x1 : V} : start n_f_law_names [x0, x1] = [some x0, some x1, none, none] := rfl
theorem pu_f_law_names {K : PySem.W.Frag} {w : World} (vs : List V) (H : Hp) (Q : VK) (E : XK) (h : sp_law_names K w vs H Q E) : t_f_law_names K w { nx := fun _ H' => Q .non H', rt := Q } (start n_f_law_names vs) H := by
  obtain ⟨x, W, n, L, rfl, ok, rfl, h0, q⟩ := h
  have hh3 := ok.M.h3
  have hnl : (nms W.M).length = W.M.hands.length := List.length_map ..
  rw [st_f_law_names]
  unfold t_f_law_names
  walk_at "st"
  refine k_lcR (n := ((W.M.hands.length : Nat) : Int).toNat) h0 (fun D i H1 => ∃ bs : List (Addr × List Addr), Imm H H1 ∧ Sep H1 (cellA D (.lst (bs.map fun b : Addr × List Addr => V.ref b.1)) :: blkA bs ((nms W.M).take i) :: watA K x W :: L) ∧ bs.length = i)
    (fun D H1 i1 h1 => ⟨[], i1, h1.blkNil.swap, rfl⟩) (fun D i H1 hi hP => ?_) fun D H1 hP => ?_
  · obtain ⟨bs, i1, h1, hl⟩ := hP
    rw [Int.toNat_natCast] at hi
    have e1 : W.M.hands[i]? = some W.M.hands[i] := List.getElem?_eq_getElem hi
    have hf20 := (ok.M.hs _ (List.mem_of_getElem? e1)).2.2.1
    have egd : W.M.hands.getD i [] = W.M.hands[i] := by rw [List.getD_eq_getElem?_getD, e1]; rfl
    generalize W.M.hands[i] = fs at e1 hf20 egd
    have en : (nms W.M)[i]? = some (frN fs) := by unfold nms; rw [List.getElem?_map, e1]; rfl
    refine k_lcB ?_
    walk_at "st"
    refine w_yes rfl ?_
    walk_at "st"
    refine k_wat (h1.pull 2 rfl) nmWatched_stack ?_
    walk_at "st"
    refine use_stack (k := i) (h1.pull 2 rfl) ok hi fun l1 s1 H2 i2 h2 t2 => ?_
    have el := t2.len
    rw [stack_len, egd] at el
    walk_at "st"
    refine w_lenL (SqL.of h2.cell) ?_
    rw [el]
    have h2 : Sep H2 (watA K x W :: cellA D (.lst (bs.map fun b => V.ref b.1)) :: blkA bs ((nms W.M).take i) :: L) := h2.tail
    walk_at "st"
    refine k_lcR (n := ((fs.length : Nat) : Int).toNat) h2 (fun D2 j H3 => ∃ as : List Addr, Imm H2 H3 ∧ Sep H3 (cellA D2 (.lst (as.map V.ref)) :: rowA as ((frN fs).take j) :: watA K x W :: cellA D (.lst (bs.map fun b : Addr × List Addr => V.ref b.1)) :: blkA bs ((nms W.M).take i) :: L) ∧ as.length = j)
      (fun D2 H3 i3 h3 => ⟨[], i3, h3.rowNil.swap, rfl⟩) (fun D2 j H3 hj hP => ?_) fun D2 H3 hP => ?_
    · obtain ⟨as, i3, h3, hal⟩ := hP
      rw [Int.toNat_natCast] at hj
      have e2 : fs[j]? = some fs[j] := List.getElem?_eq_getElem hj
      generalize fs[j] = f at e2
      have ef : (frN fs)[j]? = some f.names := by unfold frN; rw [List.getElem?_map, e2]; rfl
      refine k_lcB ?_
      walk_at "st"
      refine w_yes rfl ?_
      walk_at "st"
      refine k_wat (h3.pull 2 rfl) nmWatched_look ?_
      walk_at "st"
      refine use_look (h3.pull 2 rfl) e1 e2 fun l4 H4 i4 h4 => ?_
      have h5 : Sep H4 (cellA D2 (.lst (as.map V.ref)) :: rowA as ((frN fs).take j) :: cellA l4 (.lst (f.names.map V.int)) :: watA K x W :: cellA D (.lst (bs.map fun b => V.ref b.1)) :: blkA bs ((nms W.M).take i) :: L) := h4.sel 4 [2, 3, 0, 1]
      refine k_acc h5.cell (by rw [List.length_map]; omega) ⟨as ++ [l4], i3.trans (i4.trans (h5.imm rfl)), ?_, by rw [List.length_append, hal]; rfl⟩
      have h6 := h5.set (o' := .lst (as.map V.ref ++ [.ref l4])) rfl
      have h7 := (h6.sel 3 [1, 2, 0]).rowSnoc
      rw [take_sn ef, List.map_append]
      exact h7.swap
    · obtain ⟨as, i3, h3, hal⟩ := hP
      rw [Int.toNat_natCast, List.take_of_length_le (by rw [frN_len]; exact Nat.le_refl _)] at h3
      have h5 : Sep H3 (cellA D (.lst (bs.map fun b => V.ref b.1)) :: blkA bs ((nms W.M).take i) :: cellA D2 (.lst (as.map V.ref)) :: rowA as (frN fs) :: watA K x W :: L) := h3.sel 5 [3, 4, 0, 1, 2]
      refine k_acc h5.cell (by rw [List.length_map]; omega) ⟨bs ++ [(D2, as)], i1.trans (i2.trans (i3.trans (h5.imm rfl))), ?_, by rw [List.length_append, hl]; rfl⟩
      have h6 := h5.set (o' := .lst (bs.map (fun b => V.ref b.1) ++ [.ref D2])) rfl
      have h7 := (h6.sel 4 [1, 2, 3, 0]).blkSnoc
      rw [take_sn en, List.map_append]
      exact h7.swap
  · obtain ⟨bs, i1, h1, hl⟩ := hP
    rw [Int.toNat_natCast, ← hnl, List.take_length] at h1
    exact q H1 D bs i1 h1.nst
theorem use_names {K : PySem.W.Frag} {w : World} {H : Hp} {L : List As} {Q : VK} {E : XK} {x : Addr} {W : Wd} {n : Nat} (h : Sep H (watA K x W :: L)) (ok : WOk W) (hn : n = W.M.hands.length) (q : ∀ l bs H', Imm H H' → Sep H' (nstA l bs (nms W.M) :: watA K x W :: L) → Q (.ref l) H') : sp_law_names K w [.ref x, .int (n : Nat)] H Q E :=
  ⟨x, W, n, L, rfl, ok, hn, h, fun H' l bs i h' => q l bs H' i h'⟩
def sp_law (K : PySem.W.Frag) (w : World) : Sp := fun vs H Q _ => ∃ (a : Addr) (ns : List Int), vs = [.ref a] ∧ SqF K H a (ns.map V.int) ∧ ∀ H', Q (.bl true) H'
abbrev n_f_law : List Str := ["_law_script", "_law_d", "_law_turn", "_law_program_here", "_law_cells", "_law_funs", "_law_hands", "_law_new", "_law_cell", "_law_watched", "_law_many", "_law_before", "_law_hand", "_law_deep", "_law_name", "_law_number", "_law_due", "_law_names_here", "_law_frames", "_law_found"]
def t_f_law (K : PySem.W.Frag) (w : World)  : TS :=
 (tSeq (tAsg (tCall (sp_law_dice K w) [] E0 (tCons (tVar 0) tNil)) (gName 1))
 (tSeq (tFor (iRng1 (tCons (tC (.int 3)) tNil)) (gName 2) (tSeq (tAsg (tCall (sp_law_program K w) [] E0 (tCons (tVar 1) tNil)) (gName 3))
 (tSeq (tAsg (tVar 3) (gTup K 3 (gCons (gName 4) (gCons (gName 5) (gCons (gName 6) gNil)))))
 (tSeq (tAsg (tCB (rTupleOf K) (tCons (tLc (iTup K (tVar 4)) (gName 8) tYes (tCall (sp_law_next K w) [] E0 (tCons (tVar 1) (tCons (tC (.int 10007)) tNil))) [8]) tNil)) (gName 7))
 (tSeq (tAsg (tMake (He.ga K "Watched") (sp_Watched_init K w) [] E0 (tCons (tVar 3) tNil)) (gName 9))
 (tSeq (tFor (iRng1 (tCons (tCB (rLenS' K) (tCons (tVar 4) tNil)) tNil)) (gName 8) (tDrop (tMeth (He.ga K "Watched") "put" (sp_Watched_put K w) [] E0 (tVar 9) (tCons (tVar 8) (tCons (tOp (rIxT K) (tVar 7) (tVar 8)) tNil)))))
 (tSeq (tAsg (tCall (sp_law_next K w) [] E0 (tCons (tVar 1) (tCons (tC (.int 200)) tNil))) (gName 10))
 (tSeq (tIfS (tNot (tB (tMeth (He.ga K "Watched") "is_over" (sp_Watched_is_over K w) [] E0 (tVar 9) tNil))) (tDrop (tMeth (He.ga K "Watched") "go" (sp_Watched_go K w) [] E0 (tVar 9) (tCons (tVar 10) tNil))) tNext)
 (tSeq (tIfS (tTest (tOp (rNeD K) (tSl (rSlA K) (tCall (sp_plain K w) [] E0 (tCons (tTup (tCons (tVar 7) (tCons (tVar 5) (tCons (tVar 6) tNil)))) (tCons (tVar 10) tNil))) tNoPart (tPart (tC (.int 3)))) (tTup (tCons (tMeth (He.ga K "Watched") "said" (sp_Watched_said K w) [] E0 (tVar 9) tNil) (tCons (tMeth (He.ga K "Watched") "cells" (sp_Watched_cells K w) [] E0 (tVar 9) tNil) (tCons (tMeth (He.ga K "Watched") "is_over" (sp_Watched_is_over K w) [] E0 (tVar 9) tNil) tNil)))))) (tRet (tC (.bl false))) tNext)
 (tSeq (tAsg (tMake (He.ga K "Watched") (sp_Watched_init K w) [] E0 (tCons (tVar 3) tNil)) (gName 9))
 (tSeq (tAsg (tCall (sp_law_next K w) [] E0 (tCons (tVar 1) (tCons (tC (.int 30)) tNil))) (gName 10))
 (tSeq (tIfS (tNot (tB (tMeth (He.ga K "Watched") "is_over" (sp_Watched_is_over K w) [] E0 (tVar 9) tNil))) (tDrop (tMeth (He.ga K "Watched") "go" (sp_Watched_go K w) [] E0 (tVar 9) (tCons (tVar 10) tNil))) tNext)
 (tSeq (tAsg (tCall (sp_law_names K w) [] E0 (tCons (tVar 9) (tCons (tCB (rLenS' K) (tCons (tVar 6) tNil)) tNil))) (gName 11))
 (tSeq (tFor (iRng1 (tCons (tCB (rLenS' K) (tCons (tVar 6) tNil)) tNil)) (gName 12) (tFor (iRng1 (tCons (tCB (rLenS' K) (tCons (tOp (rIxL K) (tVar 11) (tVar 12)) tNil)) tNil)) (gName 13) (tFor (iRng1 (tCons (tCB (rLenS' K) (tCons (tOp (rIxL K) (tOp (rIxL K) (tVar 11) (tVar 12)) (tVar 13)) tNil)) tNil)) (gName 14) (tSeq (tAsg (tCall (sp_law_next K w) [] E0 (tCons (tVar 1) (tCons (tC (.int 10007)) tNil))) (gName 15))
 (tSeq (tDrop (tMeth (He.ga K "Watched") "change" (sp_Watched_change K w) [] E0 (tVar 9) (tCons (tVar 12) (tCons (tVar 13) (tCons (tVar 14) (tCons (tVar 15) tNil))))))
 (tSeq (tAsg (tLc (iList K (tVar 11)) (gName 18) tYes (tLc (iList K (tVar 18)) (gName 17) tYes (tCB (rListOf K) (tCons (tVar 17) tNil)) [17]) [18]) (gName 16))
 (tSeq (tAsg (tVar 15) (gSub (tOp (rIxL K) (tOp (rIxL K) (tVar 16) (tVar 12)) (tVar 13)) (tVar 14) rSetL))
 (tSeq (tIfS (tTest (tOp (rNeD K) (tCall (sp_law_names K w) [] E0 (tCons (tVar 9) (tCons (tCB (rLenS' K) (tCons (tVar 6) tNil)) tNil))) (tVar 16))) (tRet (tC (.bl false))) tNext)
 (tDrop (tMeth (He.ga K "Watched") "change" (sp_Watched_change K w) [] E0 (tVar 9) (tCons (tVar 12) (tCons (tVar 13) (tCons (tVar 14) (tCons (tOp (rIxL K) (tOp (rIxL K) (tOp (rIxL K) (tVar 11) (tVar 12)) (tVar 13)) (tVar 14)) tNil))))))))))))))
 (tSeq (tIfS (tNot (tB (tMeth (He.ga K "Watched") "is_over" (sp_Watched_is_over K w) [] E0 (tVar 9) tNil))) (tDrop (tMeth (He.ga K "Watched") "go" (sp_Watched_go K w) [] E0 (tVar 9) (tCons (tC (.int 1000)) tNil))) tNext)
 (tSeq (tAsg (tCall (sp_plain K w) [] E0 (tCons (tVar 3) (tCons (tC (.int 2000)) tNil))) (gName 19))
 (tIfS (tOr (tTest (tOp (rNeD K) (tMeth (He.ga K "Watched") "said" (sp_Watched_said K w) [] E0 (tVar 9) tNil) (tSl (rSlL K) (tOp (rIxT K) (tVar 19) (tC (.int 0))) tNoPart (tPart (tCB (rLenS' K) (tCons (tMeth (He.ga K "Watched") "said" (sp_Watched_said K w) [] E0 (tVar 9) tNil) tNil)))))) (tAnd (tB (tMeth (He.ga K "Watched") "is_over" (sp_Watched_is_over K w) [] E0 (tVar 9) tNil)) (tTest (tOp (rNeD K) (tMeth (He.ga K "Watched") "cells" (sp_Watched_cells K w) [] E0 (tVar 9) tNil) (tOp (rIxT K) (tVar 19) (tC (.int 1))))))) (tRet (tC (.bl false))) tNext)))))))))))))))))
 (tRet (tC (.bl true)))))
theorem st_f_law {x0 : V} : start n_f_law [x0] = [some x0, none, none, none, none, none, none, none, none, none, none, none, none, none, none, none, none, none, none, none] := rfl
theorem pu_f_law {K : PySem.W.Frag} {w : World} (vs : List V) (H : Hp) (Q : VK) (E : XK) (h : sp_law K w vs H Q E) : t_f_law K w { nx := fun _ H' => Q .non H', rt := Q } (start n_f_law vs) H := by
  obtain ⟨a, ns, rfl, hs, q⟩ := h
  rw [st_f_law]
  unfold t_f_law
  walk_at "st"
  refine use_dice Sep.nil hs fun d H1 i1 h1 => ?_
  walk_at "st"
  refine k_forR (n := (3 : Int).toNat) (fun i σ H => ∃ x2 x3 x4 x5 x6 x7 x8 x9 x10 x11 x12 x13 x14 x15 x16 x17 x18 x19, σ = [some (.ref a), some (.ref d), x2, x3, x4, x5, x6, x7, x8, x9, x10, x11, x12, x13, x14, x15, x16, x17, x18, x19] ∧ Sep H [diceA K a d ns])
    ⟨_, _, _, _, _, _, _, _, _, _, _, _, _, _, _, _, _, _, rfl, h1⟩ (fun i σ H hi hP => ?_) fun σ H hP => ?_
  · obtain ⟨x2, x3, x4, x5, x6, x7, x8, x9, x10, x11, x12, x13, x14, x15, x16, x17, x18, x19, rfl, h2⟩ := hP
    clear h1
    walk_at "st"
    refine use_program h2 fun vp p H3 i3 h3 f3 W => ?_
    have f3' := f3
    obtain ⟨pa, pc, pf, ph, fs, rfl, g1, g2, g3, g4, g5⟩ := f3'
    have w1 := W.cells1
    have w2 := W.cells8
    have w3 := W.hands1
    have w4 := W.hands3
    walk_at "st"
    refine w_gTup g1 rfl ?_
    walk_at "st"
    refine w_itt g2 ?_
    refine k_lcT (xs := p.cells.map V.int) h3 (fun D i H => ∃ xs : List Int, Imm H3 H ∧ Sep H [cellA D (.lst (xs.map V.int)), diceA K a d ns] ∧ xs.length = i ∧ Rng xs)
      (fun D H i h => ⟨[], i, h, rfl, fun _ h => nomatch h⟩) (fun D i H _ hP => by obtain ⟨_, i, _⟩ := hP; exact i.t g2) (fun D i x H hi _ hP => ?_) fun D H4 hP => ?_
    · obtain ⟨xs, i4, h4, hl, hr⟩ := hP
      rw [List.length_map] at hi
      refine k_lcB ?_
      walk_at "st"
      refine w_yes rfl ?_
      walk_at "st"
      refine use_next h4.swap (by decide) (by decide) fun r H5 hr5 i5 h5 => ?_
      have h5 := h5.swap
      refine k_acc h5.cell (by rw [List.length_map]; omega) ⟨xs ++ [(r : Int)], i4.trans (i5.trans (h5.imm rfl)), ?_, by rw [List.length_append, hl]; rfl, fun y hy => ?_⟩
      · rw [List.map_append]; exact h5.set rfl
      · rcases List.mem_append.mp hy with q | q
        · exact hr y q
        · rw [List.mem_singleton.mp q]; exact ⟨Int.natCast_nonneg _, hr5⟩
    obtain ⟨new, i4, h4, hnew, hrng⟩ := hP
    rw [List.length_map] at hnew
    walk_at "st"
    refine w_tupL h4.tail (SqL.of h4.cell) fun tn H5 i5 h5 fn => ?_
    have i35 := i4.trans i5
    have b1 := i35.t g1
    have b2 := i35.t g2
    have b3 := i35.t g3
    have b4 := g4.mono i35
    have b5 := i35.t g5
    have fp : ProgAt K H5 p (.ref pa) := f3.mono i35
    walk_at "st"
    refine k_winit h5 fp W fun x H6 i6 h6 => ?_
    walk_at "st"
    refine w_lenT (i6.t b2) ?_
    rw [List.length_map]
    walk_at "st"
    have W' := Prog.by_wf W hnew hrng
    have ok1 := putW_ok W hnew hrng
    have e1 := putW_end (p := p) hnew
    refine k_forR (n := ((p.cells.length : Nat) : Int).toNat) (fun j σ H => ∃ x8, σ = [some (.ref a), some (.ref d), some (.int (i : Nat)), some (.ref pa), some (.ref pc), some (.ref pf), some (.ref ph), some (.ref tn), x8, some (.ref x), x10, x11, x12, x13, x14, x15, x16, x17, x18, x19] ∧ Imm H5 H ∧ Sep H [watA K x (putW (Wd.init p) new j), diceA K a d ns])
      ⟨_, rfl, i6, h6⟩ (fun j σ H7 hj hP => ?_) fun σ H7 hP => ?_
    · obtain ⟨x8, rfl, i7, h7⟩ := hP
      rw [Int.toNat_natCast] at hj
      have ej : new[j]? = some new[j] := List.getElem?_eq_getElem (by omega)
      have hvj : Sm (new[j]'(by omega)) := hrng _ (List.getElem_mem _)
      generalize new[j] = v at ej hvj
      walk_at "st"
      refine k_wat h7 nmWatched_put ?_
      walk_at "st"
      refine w_ixT (i7.t fn) (atI_nat (j := j) (v := .int v) (by rw [List.getElem?_map, ej]; rfl)) ?_
      walk_at "st"
      refine use_put (c := j) h7 (by show j < (new.take j ++ p.cells.drop j).length; rw [List.length_append, List.length_take, List.length_drop]; omega) hvj fun H8 i8 h8 => ?_
      rw [putW_succ ej (by show j < p.cells.length; exact hj)] at h8
      exact ⟨_, rfl, i7.trans i8, h8⟩
    obtain ⟨x8', rfl, i7, h7⟩ := hP
    rw [Int.toNat_natCast] at h7
    generalize hW1 : putW (Wd.init p) new p.cells.length = W1 at h7 ok1 e1
    have st1 : W1.stops = [] := by rw [← hW1]; rfl
    have dn1 : W1.M.done = 0 := by rw [← hW1]; rfl
    walk_at "st"
    refine use_next h7.swap (by decide) (by decide) fun many H8 hmany i8 h8 => ?_
    have h8 := h8.swap
    walk_at "st"
    refine k_wat h8 nmWatched_is_over ?_
    walk_at "st"
    refine use_is_over h8 ok1.M.h3 fun H9 i9 h9 => ?_
    walk_at "st"
    obtain ⟨ok2, st2, dn2, hl2⟩ := goW_ok ok1 many
    have e2 := goW_M st1 many
    refine w_ifH (fun H => Imm H5 H ∧ Sep H [watA K x (goW W1 many), diceA K a d ns]) (fun ho nx hnx => ?_) (fun ho => ?_) fun H10 hP => ?_
    · have ho : W1.M.isOver = false := by simpa using ho
      walk_at "st"
      refine k_wat h9 nmWatched_go ?_
      walk_at "st"
      refine use_go h9 ok1 (by omega) ho (Nat.lt_of_le_of_lt (show W1.M.done + many ≤ 200 by omega) (by decide)) fun v H10 i10 h10 ev10 => ?_
      refine hnx _ ⟨i7.trans (i8.trans (i9.trans i10)), ?_⟩
      have : goW W1 many = (W1.go many).2 := by unfold goW; rw [if_pos ho]
      rw [this]; exact h10
    · have ho : W1.M.isOver = true := by simpa using ho
      refine ⟨i7.trans (i8.trans i9), ?_⟩
      have : goW W1 many = W1 := by unfold goW; rw [if_neg (by rw [ho]; simp)]
      rw [this]; exact h9
    obtain ⟨i10, h10⟩ := hP
    generalize goW W1 many = W2 at h10 ok2 st2 dn2 hl2 e2
    rw [e1] at e2
    walk_at "st"
    refine k_tup (K := K) h10 fun r1 H11 i11 h11 f11 => ?_
    have i511 := i10.trans i11
    have fp' : ProgAt K H11 (p.by new) (.ref r1) := ⟨r1, tn, pf, ph, fs, rfl, f11, i511.t fn, i511.t b3, b4.mono i511, i511.t b5⟩
    walk_at "st"
    refine use_plain h11 fp' W' (by omega) fun r2 ta he tv H12 i12 f12 h12 t12 => ?_
    rw [← e2] at f12 h12 t12
    walk_at "st"
    refine w_slA h12 f12 fun r3 H13 i13 h13 f13 => ?_
    have t13 := t12.mono i13
    walk_at "st"
    refine k_wat (h13.pull 2 rfl) nmWatched_said ?_
    walk_at "st"
    refine use_said (h13.pull 2 rfl) fun l1 tv1 H14 i14 h14 t14 => ?_
    walk_at "st"
    refine k_wat h14.swap nmWatched_cells ?_
    walk_at "st"
    refine use_cells h14.swap fun l2 H15 i15 h15 => ?_
    walk_at "st"
    refine k_wat h15.swap nmWatched_is_over ?_
    walk_at "st"
    refine use_is_over h15.swap ok2.M.h3 fun H16 i16 h16 => ?_
    walk_at "st"
    refine k_tup (K := K) h16 fun r4 H17 i17 h17 f17 => ?_
    have h17 : Sep H17 [watA K x W2, cellA l2 (.lst (W2.M.held.map V.int)), cellA l1 (.lst tv1), cellA ta (.lst tv), cellA he (.lst (W2.M.held.map V.int)), diceA K a d ns] := h17
    have f13 : SqT K H17 r3 [.ref ta, .ref he, .bl W2.M.isOver] := (i14.trans (i15.trans (i16.trans i17))).t f13
    have dx : Dp K H17 (.ref r3) (.tuple [.list (talkD W2.M.talk), .list (intsD W2.M.held), .bool W2.M.isOver]) :=
      .tup f13 (.cons (.lst (SqL.of (h17.pull 3 rfl).cell) (talk_dp (t13.mono (i14.trans (i15.trans (i16.trans i17)))))) (.cons (.lst (SqL.of (h17.pull 4 rfl).cell) (ints_dp _)) (.cons (.bl _) .nil)))
    have dy : Dp K H17 (.ref r4) (.tuple [.list (talkD W2.M.talk), .list (intsD W2.M.held), .bool W2.M.isOver]) :=
      .tup f17 (.cons (.lst (SqL.of (h17.pull 2 rfl).cell) (talk_dp (t14.mono (i15.trans (i16.trans i17))))) (.cons (.lst (SqL.of (h17.pull 1 rfl).cell) (ints_dp _)) (.cons (.bl _) .nil)))
    have hfl : Flat 3 (.tuple [.list (talkD W2.M.talk), .list (intsD W2.M.held), .bool W2.M.isOver]) := .tuple fun d hd => by
      rcases List.mem_cons.mp hd with rfl | hd
      · exact flat_talk _
      rcases List.mem_cons.mp hd with rfl | hd
      · exact (flat_ints _).mono (by decide)
      · rw [List.mem_singleton.mp hd]; exact (Flat.bool _).mono (by decide)
    refine ne_same dx dy hfl.shaped ?_
    have i517 := i511.trans (i12.trans (i13.trans (i14.trans (i15.trans (i16.trans i17)))))
    have h18 := (h17.pull 5 rfl).take 1
    clear h17 h16 h15 h14 h13 h12 h11 h10 h9 h8 h7 h6 dx dy
    walk_at "st"
    have fp17 := fp.mono i517
    refine k_winit h18 fp17 W fun y H20 i20 h20 => ?_
    walk_at "st"
    refine use_next h20.swap (by decide) (by decide) fun many2 H21 hmany2 i21 h21 => ?_
    have h21 := h21.swap
    have ok0 := Prog.wd_ok W
    walk_at "st"
    refine k_wat h21 nmWatched_is_over ?_
    walk_at "st"
    refine use_is_over h21 ok0.M.h3 fun H22 i22 h22 => ?_
    walk_at "st"
    obtain ⟨ok3, st3, dn3, hl3⟩ := goW_ok ok0 many2
    have e3 := goW_M (W := Wd.init p) rfl many2
    rw [init_hands] at hl3
    have hst : (Wd.init p).stops = [] := rfl
    rw [hst] at st3
    have hdn : (Wd.init p).M.done = 0 := rfl
    refine w_ifH (fun H => Imm H5 H ∧ Sep H [watA K y (goW (Wd.init p) many2), diceA K a d ns]) (fun ho nx hnx => ?_) (fun ho => ?_) fun H23 hP => ?_
    · have ho : (Wd.init p).M.isOver = false := by simpa using ho
      walk_at "st"
      refine k_wat h22 nmWatched_go ?_
      walk_at "st"
      refine use_go h22 ok0 (by omega) ho (Nat.lt_of_le_of_lt (show (Wd.init p).M.done + many2 ≤ 30 by omega) (by decide)) fun v H10 i10 h10 ev10 => ?_
      refine hnx _ ⟨i517.trans (i20.trans (i21.trans (i22.trans i10))), ?_⟩
      have : goW (Wd.init p) many2 = ((Wd.init p).go many2).2 := by unfold goW; rw [if_pos ho]
      rw [this]; exact h10
    · have ho : (Wd.init p).M.isOver = true := by simpa using ho
      refine ⟨i517.trans (i20.trans (i21.trans i22)), ?_⟩
      have : goW (Wd.init p) many2 = Wd.init p := by unfold goW; rw [if_neg (by rw [ho]; simp)]
      rw [this]; exact h22
    obtain ⟨i23, h23⟩ := hP
    clear h22 h21 h20 h18
    generalize goW (Wd.init p) many2 = W3 at h23 ok3 st3 dn3 hl3 e3
    have e3 : W3.M = runN many2 p.mach := e3
    walk_at "st"
    refine w_lenT (i23.t b5) ?_
    rw [List.length_map]
    walk_at "st"
    refine use_names h23 ok3 hl3.symm fun lb bs H24 i24 h24 => ?_
    have i24 := i23.trans i24
    walk_at "st"
    refine w_lenT (i24.t b5) ?_
    rw [List.length_map]
    walk_at "st"
    have hnl : (nms W3.M).length = W3.M.hands.length := List.length_map ..
    refine k_forR (n := ((p.hands.length : Nat) : Int).toNat) (fun h σ H => ∃ x12 x13 x14 x15 x16 x17 x18, σ = [some (.ref a), some (.ref d), some (.int (i : Nat)), some (.ref pa), some (.ref pc), some (.ref pf), some (.ref ph), some (.ref tn), x8', some (.ref y), some (.int (many2 : Nat)), some (.ref lb), x12, x13, x14, x15, x16, x17, x18, x19] ∧ Imm H5 H ∧ Sep H [nstA lb bs (nms W3.M), watA K y W3, diceA K a d ns])
      ⟨_, _, _, _, _, _, _, rfl, i24, h24⟩ (fun h σ H25 hh hP => ?_) fun σ H25 hP => ?_
    · obtain ⟨x12, x13, x14, x15, x16, x17, x18, rfl, i25, h25⟩ := hP
      rw [Int.toNat_natCast] at hh
      have hh' : h < W3.M.hands.length := by omega
      have eh : W3.M.hands[h]? = some W3.M.hands[h] := List.getElem?_eq_getElem hh'
      have hfo := ok3.M.hs _ (List.mem_of_getElem? eh)
      generalize W3.M.hands[h] = frs at eh hfo
      have en : (nms W3.M)[h]? = some (frN frs) := by unfold nms; rw [List.getElem?_map, eh]; rfl
      walk_at "st"
      obtain ⟨b, c1, c2, c3, c4⟩ := h25.nstGet en
      refine w_ixL (SqL.of h25.nstL.1) (atI_nat c3) ?_
      walk_at "st"
      refine w_lenL (SqL.of c4) ?_
      rw [List.length_map, c2, frN_len]
      clear c4
      have hf20 := hfo.2.2.1
      walk_at "st"
      refine k_forR (n := ((frs.length : Nat) : Int).toNat) (fun dd σ H => ∃ x13 x14 x15 x16 x17 x18, σ = [some (.ref a), some (.ref d), some (.int (i : Nat)), some (.ref pa), some (.ref pc), some (.ref pf), some (.ref ph), some (.ref tn), x8', some (.ref y), some (.int (many2 : Nat)), some (.ref lb), some (.int (h : Nat)), x13, x14, x15, x16, x17, x18, x19] ∧ Imm H5 H ∧ Sep H [nstA lb bs (nms W3.M), watA K y W3, diceA K a d ns])
        ⟨_, _, _, _, _, _, rfl, i25, h25⟩ (fun dd σ H26 hdd hP => ?_) fun σ H26 hP => ?_
      · obtain ⟨x13, x14, x15, x16, x17, x18, rfl, i26, h26⟩ := hP
        rw [Int.toNat_natCast] at hdd
        have ed : frs[dd]? = some frs[dd] := List.getElem?_eq_getElem hdd
        have hfr := hfo.2.1 _ (List.mem_of_getElem? ed)
        generalize frs[dd] = f at ed hfr
        obtain ⟨hd, hd1, hd2⟩ := hfr.hd
        have hd3 := (ok3.M.bd.hd _ _ hd1).2
        have ef : (frN frs)[dd]? = some f.names := by unfold frN; rw [List.getElem?_map, ed]; rfl
        walk_at "st"
        obtain ⟨b', c1', c2', c3', c4'⟩ := h26.nstGet en
        obtain ⟨ra, k1, k2, k3, k4⟩ := h26.nstSet en ef c1'
        refine w_ixL (SqL.of h26.nstL.1) (atI_nat c3') ?_
        walk_at "st"
        refine w_ixL (SqL.of c4') (atI_nat k2) ?_
        walk_at "st"
        refine w_lenL (SqL.of k3) ?_
        rw [List.length_map]
        clear k3 k4 c4'
        walk_at "st"
        refine k_forR (n := ((f.names.length : Nat) : Int).toNat) (fun nn σ H => ∃ x14 x15 x16 x17 x18, σ = [some (.ref a), some (.ref d), some (.int (i : Nat)), some (.ref pa), some (.ref pc), some (.ref pf), some (.ref ph), some (.ref tn), x8', some (.ref y), some (.int (many2 : Nat)), some (.ref lb), some (.int (h : Nat)), some (.int (dd : Nat)), x14, x15, x16, x17, x18, x19] ∧ Imm H5 H ∧ Sep H [nstA lb bs (nms W3.M), watA K y W3, diceA K a d ns])
          ⟨_, _, _, _, _, rfl, i26, h26⟩ (fun nn σ H27 hnn hP => ?_) fun σ H27 hP => ?_
        · obtain ⟨x14, x15, x16, x17, x18, rfl, i27, h27⟩ := hP
          rw [Int.toNat_natCast] at hnn
          have eo : f.names[nn]? = some f.names[nn] := List.getElem?_eq_getElem hnn
          have hold : Sm (f.names[nn]) := hfr.rn _ (List.getElem_mem _)
          generalize f.names[nn] = old at eo hold
          walk_at "st"
          refine use_next (h27.pull 2 rfl) (by decide) (by decide) fun r H28 hr i28 h28 => ?_
          have h28 : Sep H28 [watA K y W3, nstA lb bs (nms W3.M), diceA K a d ns] := h28.sel 3 [2, 1, 0]
          have hrs : Sm (r : Int) := ⟨Int.natCast_nonneg _, hr⟩
          walk_at "st"
          refine k_wat h28 nmWatched_change ?_
          walk_at "st"
          refine use_change (k := h) (deep := dd) (n := nn) h28 eh ed hnn hrs fun H29 i29 h29 => ?_
          have okc : WOk (W3.chg h frs dd f nn (r : Int)) := ok3.chg eh ed hrs
          have ec : nms (W3.chg h frs dd f nn (r : Int)).M = (nms W3.M).set h ((frN frs).set dd (f.names.set nn (r : Int))) := nms_chg
          have hlc : (W3.chg h frs dd f nn (r : Int)).M.hands.length = p.hands.length := by
            show (List.set ..).length = _
            rw [List.length_set]; exact hl3
          have ecb : (W3.chg h frs dd f nn (r : Int)).chg h (frs.set dd (f.named nn (r : Int))) dd (f.named nn (r : Int)) nn old = W3 := chg_back eh ed eo
          have q1 : (W3.chg h frs dd f nn (r : Int)).M.hands[h]? = some (frs.set dd (f.named nn (r : Int))) := by
            show (List.set ..)[h]? = _
            rw [List.getElem?_set_self hh']
          have q2 : (frs.set dd (f.named nn (r : Int)))[dd]? = some (f.named nn (r : Int)) := List.getElem?_set_self hdd
          have q3 : nn < (f.named nn (r : Int)).names.length := by show nn < (List.set ..).length; rw [List.length_set]; exact hnn
          generalize W3.chg h frs dd f nn (r : Int) = Wc at h29 okc ec hlc ecb q1
          walk_at "st"
          refine w_itl (SqL.of (h29.pull 1 rfl).nstL.1) ?_
          refine k_lcL (xs := bs.map fun b => V.ref b.1) h29 (fun D j H => ∃ cs : List (Addr × List Addr), Imm H29 H ∧ Sep H [cellA D (.lst (cs.map fun b : Addr × List Addr => V.ref b.1)), blkA cs ((nms W3.M).take j), nstA lb bs (nms W3.M), watA K y Wc, diceA K a d ns] ∧ cs.length = j)
            (fun D H i h => ⟨[], i, (h.blkNil.sel 4 [1, 0, 3, 2]), rfl⟩) (fun D j H _ hP => by obtain ⟨_, _, hS, _⟩ := hP; exact SqL.of (hS.pull 2 rfl).nstL.1) (fun D j u H30 hj hu hP => ?_) fun D H30 hP => ?_
          · obtain ⟨cs, i30, h30, hcl⟩ := hP
            have hsh := (h29.pull 1 rfl).nstL.2.len
            rw [List.length_map] at hj
            have hj' : j < (nms W3.M).length := by omega
            have eX : (nms W3.M)[j]? = some (nms W3.M)[j] := List.getElem?_eq_getElem hj'
            have ehj : W3.M.hands[j]? = some (W3.M.hands[j]'(by omega)) := List.getElem?_eq_getElem _
            have hfj := (ok3.M.hs _ (List.mem_of_getElem? ehj)).2.2.1
            have hXl : ((nms W3.M)[j]).length ≤ 20 := by
              have : (nms W3.M)[j]? = some (frN (W3.M.hands[j]'(by omega))) := by unfold nms; rw [List.getElem?_map, ehj]; rfl
              rw [eX] at this
              rw [Option.some.inj this, frN_len]; exact hfj
            generalize (nms W3.M)[j] = X at eX hXl
            obtain ⟨b2, c1, c2, c3, c4⟩ := (h30.pull 2 rfl).nstGet eX
            rw [c3] at hu
            obtain rfl := Option.some.inj hu
            refine k_lcB ?_
            walk_at "st"
            refine w_yes rfl ?_
            walk_at "st"
            refine w_itl (SqL.of c4) ?_
            refine k_lcL (xs := b2.2.map V.ref) h30 (fun D2 l H => ∃ as : List Addr, Imm H30 H ∧ Sep H [cellA D2 (.lst (as.map V.ref)), rowA as (X.take l), nstA lb bs (nms W3.M), cellA D (.lst (cs.map fun b : Addr × List Addr => V.ref b.1)), blkA cs ((nms W3.M).take j), watA K y Wc, diceA K a d ns] ∧ as.length = l)
              (fun D2 H i h => ⟨[], i, (h.rowNil.sel 5 [1, 0, 4, 2, 3]), rfl⟩) (fun D2 l H _ hP => by
                obtain ⟨_, _, hS, _⟩ := hP
                obtain ⟨b3, m1, _, _, m4⟩ := (hS.pull 2 rfl).nstGet eX
                rw [c1] at m1; cases m1; exact SqL.of m4) (fun D2 l u H31 hl hu hP => ?_) fun D2 H31 hP => ?_
            · obtain ⟨as, i31, h31, hal⟩ := hP
              rw [List.length_map, c2] at hl
              have eY : X[l]? = some X[l] := List.getElem?_eq_getElem hl
              generalize X[l] = Y at eY
              obtain ⟨ra2, m1, m2, m3, _⟩ := (h31.pull 2 rfl).nstSet eX eY c1
              rw [m2] at hu
              obtain rfl := Option.some.inj hu
              refine k_lcB ?_
              walk_at "st"
              refine w_yes rfl ?_
              walk_at "st"
              refine w_listOf h31 (SqL.of m3) fun p2 H32 i32 h32 => ?_
              have h33 : Sep H32 (cellA D2 (.lst (as.map V.ref)) :: rowA as (X.take l) :: cellA p2 (.lst (Y.map V.int)) :: [nstA lb bs (nms W3.M), cellA D (.lst (cs.map fun b : Addr × List Addr => V.ref b.1)), blkA cs ((nms W3.M).take j), watA K y Wc, diceA K a d ns]) := h32.sel 3 [1, 2, 0]
              refine k_acc h33.cell (by rw [List.length_map]; omega) ⟨as ++ [p2], i31.trans (i32.trans (h33.imm rfl)), ?_, by rw [List.length_append, hal]; rfl⟩
              have h34 := ((h33.set (o' := .lst (as.map V.ref ++ [.ref p2])) rfl).sel 3 [1, 2, 0]).rowSnoc
              rw [take_sn eY, List.map_append]
              exact h34.swap
            · obtain ⟨as, i31, h31, hal⟩ := hP
              rw [List.length_map, c2, List.take_length] at h31
              have h32 : Sep H31 (cellA D (.lst (cs.map fun b : Addr × List Addr => V.ref b.1)) :: blkA cs ((nms W3.M).take j) :: cellA D2 (.lst (as.map V.ref)) :: rowA as X :: [nstA lb bs (nms W3.M), watA K y Wc, diceA K a d ns]) := h31.sel 5 [3, 4, 0, 1, 2]
              have h3n := ok3.M.h3
              refine k_acc h32.cell (by rw [List.length_map]; omega) ⟨cs ++ [(D2, as)], i30.trans (i31.trans (h32.imm rfl)), ?_, by rw [List.length_append, hcl]; rfl⟩
              have h34 := ((h32.set (o' := .lst (cs.map (fun b : Addr × List Addr => V.ref b.1) ++ [.ref D2])) rfl).sel 4 [1, 2, 3, 0]).blkSnoc
              rw [take_sn eX, List.map_append]
              exact h34.swap
          obtain ⟨cs, i30, h30, hcl⟩ := hP
          rw [List.length_map, (h29.pull 1 rfl).nstL.2.len, List.take_length] at h30
          have h30 : Sep H30 [nstA D cs (nms W3.M), nstA lb bs (nms W3.M), watA K y Wc, diceA K a d ns] := h30.nst
          walk_at "st"
          obtain ⟨cb, n1, n2, n3, n4⟩ := h30.nstGet en
          obtain ⟨ca, m1, m2, m3, m4⟩ := h30.nstSet en ef n1
          refine w_ixL (SqL.of h30.nstL.1) (atI_nat n3) ?_
          walk_at "st"
          refine w_ixL (SqL.of n4) (atI_nat m2) ?_
          walk_at "st"
          refine w_setL m3 (ixN_lt (by rw [List.length_map]; exact hnn)) ?_
          have ems : (f.names.map V.int).set nn (.int (r : Nat)) = (f.names.set nn (r : Int)).map V.int := List.map_set.symm
          rw [ems]
          obtain ⟨i31, h31⟩ := m4 (f.names.set nn (r : Int))
          generalize upd H30 ca (.lst ((f.names.set nn (r : Int)).map V.int)) = H31 at i31 h31
          rw [← ec] at h31
          have i531 := i27.trans (i28.trans (i29.trans (i30.trans i31)))
          walk_at "st"
          refine w_lenT (i531.t b5) ?_
          rw [List.length_map]
          walk_at "st"
          refine use_names (h31.pull 2 rfl) okc hlc.symm fun l3 bs3 H32 i32 h32 => ?_
          have h32 : Sep H32 [nstA l3 bs3 (nms Wc.M), watA K y Wc, nstA D cs (nms Wc.M), nstA lb bs (nms W3.M), diceA K a d ns] := h32
          walk_at "st"
          refine ne_same h32.nstDp (h32.pull 2 rfl).nstDp (flat_nst _).shaped ?_
          have h33 : Sep H32 (nstA lb bs (nms W3.M) :: watA K y Wc :: [diceA K a d ns]) := (h32.sel 5 [0, 2, 3, 1, 4]).tail.tail
          walk_at "st"
          refine k_wat h33.swap nmWatched_change ?_
          walk_at "st"
          obtain ⟨d1, o1, o2, o3, o4⟩ := h33.nstGet en
          obtain ⟨d2, z1, z2, z3, _⟩ := h33.nstSet en ef o1
          refine w_ixL (SqL.of h33.nstL.1) (atI_nat o3) ?_
          walk_at "st"
          refine w_ixL (SqL.of o4) (atI_nat z2) ?_
          walk_at "st"
          refine w_ixL (SqL.of z3) (atI_nat (j := nn) (v := .int old) (by rw [List.getElem?_map, eo]; rfl)) ?_
          walk_at "st"
          refine use_change (k := h) (deep := dd) (n := nn) h33.swap q1 q2 q3 hold fun H34 i34 h34 => ?_
          rw [ecb] at h34
          exact ⟨_, _, _, _, _, rfl, i531.trans (i32.trans i34), h34.swap⟩
        · obtain ⟨x14, x15, x16, x17, x18, rfl, i27, h27⟩ := hP
          exact ⟨_, _, _, _, _, _, rfl, i27, h27⟩
      · obtain ⟨x13, x14, x15, x16, x17, x18, rfl, i26, h26⟩ := hP
        exact ⟨_, _, _, _, _, _, _, rfl, i26, h26⟩
    obtain ⟨x12, x13, x14, x15, x16, x17, x18, rfl, i25, h25⟩ := hP
    clear h24 h23
    have h25 : Sep H25 [watA K y W3, diceA K a d ns] := h25.tail
    walk_at "st"
    refine k_wat h25 nmWatched_is_over ?_
    walk_at "st"
    refine use_is_over h25 ok3.M.h3 fun H26 i26 h26 => ?_
    walk_at "st"
    obtain ⟨ok4, st4, dn4, hl4⟩ := goW_ok ok3 1000
    have e4 := goW_M st3 1000
    refine w_ifH (fun H => Imm H5 H ∧ Sep H [watA K y (goW W3 1000), diceA K a d ns]) (fun ho nx hnx => ?_) (fun ho => ?_) fun H27 hP => ?_
    · have ho : W3.M.isOver = false := by simpa using ho
      walk_at "st"
      refine k_wat h26 nmWatched_go ?_
      walk_at "st"
      refine use_go (many := 1000) h26 ok3 (by omega) ho (Nat.lt_of_le_of_lt (show W3.M.done + 1000 ≤ 1030 by omega) (by decide)) fun v H10 i10 h10 ev10 => ?_
      refine hnx _ ⟨i25.trans (i26.trans i10), ?_⟩
      have : goW W3 1000 = (W3.go 1000).2 := by unfold goW; rw [if_pos ho]
      rw [this]; exact h10
    · have ho : W3.M.isOver = true := by simpa using ho
      refine ⟨i25.trans i26, ?_⟩
      have : goW W3 1000 = W3 := by unfold goW; rw [if_neg (by rw [ho]; simp)]
      rw [this]; exact h26
    obtain ⟨i27, h27⟩ := hP
    generalize goW W3 1000 = W4 at h27 ok4 st4 dn4 hl4 e4
    have e5 : runN 2000 p.mach = runN (970 + (30 - many2)) W4.M := by
      rw [e4, e3, ← runN_add, ← runN_add]
      congr 1
      omega
    walk_at "st"
    refine use_plain (many := 2000) h27 (fp.mono i27) W (by decide) fun r2 ta he tv H28 i28 f28 h28 t28 => ?_
    rw [e5] at f28 h28 t28
    generalize 970 + (30 - many2) = kk at f28 h28 t28
    walk_at "st"
    refine k_wat (h28.pull 2 rfl) nmWatched_said ?_
    walk_at "st"
    refine use_said (h28.pull 2 rfl) fun l1 tv1 H29 i29 h29 t29 => ?_
    walk_at "st"
    refine w_ixT (i29.t f28) (atI_nat (j := 0) (v := .ref ta) rfl) ?_
    walk_at "st"
    refine k_wat h29.swap nmWatched_said ?_
    walk_at "st"
    refine use_said h29.swap fun l2 tv2 H30 i30 h30 t30 => ?_
    walk_at "st"
    refine w_lenL (SqL.of h30.cell) ?_
    have h30 : Sep H30 [cellA l2 (.lst tv2), watA K y W4, cellA l1 (.lst tv1), cellA ta (.lst tv), cellA he (.lst ((runN kk W4.M).held.map V.int)), diceA K a d ns] := h30
    have el2 : tv2.length = W4.M.talk.length := by
      have := t30.len
      exact this
    rw [el2]
    walk_at "st"
    refine w_slL h30 (SqL.of (h30.pull 3 rfl).cell) fun rl H31 i31 h31 => ?_
    rw [cut_to] at h31
    have h31 : Sep H31 [cellA rl (.lst (tv.take W4.M.talk.length)), cellA l2 (.lst tv2), watA K y W4, cellA l1 (.lst tv1), cellA ta (.lst tv), cellA he (.lst ((runN kk W4.M).held.map V.int)), diceA K a d ns] := h31
    have tt := Talk.take W4.M.talk.length (t28.mono (i29.trans (i30.trans i31)))
    rw [run_take] at tt
    refine ne_same (.lst (SqL.of (h31.pull 3 rfl).cell) (talk_dp (t29.mono (i30.trans i31)))) (.lst (SqL.of h31.cell) (talk_dp tt)) (flat_talk _).shaped ?_
    walk_at "st"
    refine k_wat (h31.pull 2 rfl) nmWatched_is_over ?_
    walk_at "st"
    refine use_is_over (h31.pull 2 rfl) ok4.M.h3 fun H32 i32 h32 => ?_
    cases ho : W4.M.isOver with
    | false =>
      walk_at "st"
      exact ⟨_, _, _, _, _, _, _, _, _, _, _, _, _, _, _, _, _, _, rfl, (h32.pull 6 rfl).take 1⟩
    | true =>
      rw [runN_ov kk ho] at h32
      have h32 : Sep H32 [watA K y W4, cellA rl (.lst (tv.take W4.M.talk.length)), cellA l2 (.lst tv2), cellA l1 (.lst tv1), cellA ta (.lst tv), cellA he (.lst (W4.M.held.map V.int)), diceA K a d ns] := h32
      walk_at "st"
      refine k_wat h32 nmWatched_cells ?_
      walk_at "st"
      refine use_cells h32 fun l6 H33 i33 h33 => ?_
      walk_at "st"
      refine w_ixT ((i29.trans (i30.trans (i31.trans (i32.trans i33)))).t f28) (atI_nat (j := 1) (v := .ref he) rfl) ?_
      refine ne_same (.lst (SqL.of h33.cell) (ints_dp _)) (.lst (SqL.of (h33.pull 6 rfl).cell) (ints_dp _)) (flat_ints _).shaped ?_
      walk_at "st"
      exact ⟨_, _, _, _, _, _, _, _, _, _, _, _, _, _, _, _, _, _, rfl, (h33.pull 7 rfl).take 1⟩
  · obtain ⟨x2, x3, x4, x5, x6, x7, x8, x9, x10, x11, x12, x13, x14, x15, x16, x17, x18, x19, rfl, h2⟩ := hP
    walk_at "st"
    exact q H
end SD
set_option Elab.async false
set_option linter.all false
set_option maxRecDepth 100000
set_option maxHeartbeats 4000000
namespace SD
open PySem PySem.Spec PyProof.Rows L2
/-! ### a written table of texts, from what the head tells -/
theorem keys_none {P : Params} {z : Str} : ∀ {l : List DictEntry} {ks : List Str}, l.map He.keyOf = He.keysIn P ks → z ∉ ks → l.find? (·.key.isStr z) = none ∧ l.any (·.refKey) = false
  | [], _, _, _ => ⟨rfl, rfl⟩
  | e :: r, [], h, _ => by cases h
  | e :: r, k :: ks, h, hz => by
    have h1 : He.keyOf e :: r.map He.keyOf = some (k, PyData.keyHash P k) :: He.keysIn P ks := h
    injection h1 with h2 h3
    obtain ⟨f1, f2⟩ := keys_none h3 (fun m => hz (List.mem_cons_of_mem _ m))
    unfold He.keyOf at h2
    split at h2
    · rename_i x t q
      have h4 := (Prod.mk.inj (Option.some.inj h2)).1
      have hx : e.key.isStr z = false := by
        rw [q]
        show (x == z) = false
        have : x ≠ z := fun e' => hz (by rw [← e', h4]; exact List.mem_cons_self ..)
        simpa using this
      refine ⟨?_, ?_⟩
      · rw [List.find?_cons, hx]; exact f1
      · rw [List.any_cons, f2]
        have : e.refKey = false := by unfold DictEntry.refKey; rw [q]
        rw [this]; rfl
    · cases h2
theorem ktab_of {K : PySem.W.Frag} {w : World} {a : Addr} {kvs : List (Str × He.Dv)} (h : He.dicW K a = some (He.keysIn w.params (kvs.map (·.1)))) (hv : He.valsB K a kvs = true) :
    KTab K w a (fun z => (kvs.map fun q => (q.1, q.2.v K)).lookup z) := by
  obtain ⟨es, n, D⟩ := He.dicW_ok h
  refine ⟨es, n, D, fun z => ?_⟩
  cases q : (kvs.map fun q => (q.1, q.2.v K)).lookup z with
  | some v =>
    have hm : ∃ d, (z, d) ∈ kvs ∧ v = d.v K := by
      clear h hv D
      induction kvs with
      | nil => cases q
      | cons x r ih =>
        rw [List.map_cons, List.lookup_cons] at q
        split at q
        · rename_i e
          refine ⟨x.2, ?_, (Option.some.inj q).symm⟩
          rw [eq_of_beq e]; exact List.mem_cons_self ..
        · obtain ⟨d, m, e⟩ := ih q
          exact ⟨d, List.mem_cons_of_mem _ m, e⟩
    obtain ⟨d, m, rfl⟩ := hm
    obtain ⟨u, e1, e2⟩ := He.valsB_ok hv m
    exact ⟨some u, e1, by show RelO ((kvs.map fun q => (q.1, q.2.v K)).lookup z) (some u); rw [q]; exact e2⟩
  | none =>
    have hz : z ∉ kvs.map (·.1) := fun m => by
      clear h hv D
      induction kvs with
      | nil => cases m
      | cons x r ih =>
        rw [List.map_cons, List.lookup_cons] at q
        split at q
        · cases q
        · rename_i e
          rw [List.map_cons] at m
          rcases List.mem_cons.mp m with m | m
          · rw [m] at e; simp at e
          · exact ih q m
    refine ⟨none, ?_, by show RelO ((kvs.map fun q => (q.1, q.2.v K)).lookup z) none; rw [q]; trivial⟩
    have hk : es.toList.map He.keyOf = He.keysIn w.params (kvs.map (·.1)) := by
      have h2 := h
      unfold He.dicW at h2
      rw [D.at_] at h2
      have h3 : (match decide ("dict" = "dict") && ((#[] : Array (Option Value)).isEmpty && !(a == sysModules)) with
        | true => some (es.toList.map He.keyOf)
        | false => none) = some (He.keysIn w.params (kvs.map (·.1))) := h2
      rw [D.low] at h3
      exact Option.some.inj h3
    obtain ⟨f1, f2⟩ := keys_none hk hz
    unfold PySem.W.nsIn
    rw [D.at_]
    show (match es.toList.find? (·.key.isStr z) with
      | some e => some (some e.val)
      | none => if es.toList.any (·.refKey) then none else some none) = some none
    rw [f1, f2]
    rfl
theorem saysT_tab {fa : List He.Fa} {fn : List He.DefD} {ts : List He.Tab} {w : World} {K : PySem.W.Frag} (c : He.SaysT fa fn ts w K) (i : Nat) {t : He.Tab} (h : ts[i]? = some t := by rfl) : He.dicW K (t.1 K) = some (He.keysIn w.params t.2) := by
  have e : ts.map (fun t => He.dicW K (t.1 K)) = ts.map fun t => some (He.keysIn w.params t.2) := congrArg (fun z : He.AlT => z.2) c
  have e2 : (ts.map fun t => He.dicW K (t.1 K))[i]? = (ts.map fun t => some (He.keysIn w.params t.2))[i]? := by rw [e]
  rw [List.getElem?_map, List.getElem?_map, h] at e2
  exact Option.some.inj e2
end SD
set_option Elab.async false
set_option linter.all false
set_option maxRecDepth 100000
set_option maxHeartbeats 4000000
namespace SD
open PySem PySem.Spec PyProof.Rows L2
open C8 (Cal Met Mak pe_c pe_mk pe_mt pe_mt0 pe_gc)
open Hd
structure Gx (K : PySem.W.Frag) (mg : Str → Option Value) : Prop where
  c_REST : ∃ u, mg "REST" = some u ∧ RelV (.int 10007) u
  c_MOST_CELLS : ∃ u, mg "MOST_CELLS" = some u ∧ RelV (.int 8) u
  c_MOST_FUNS : ∃ u, mg "MOST_FUNS" = some u ∧ RelV (.int 4) u
  c_MOST_HANDS : ∃ u, mg "MOST_HANDS" = some u ∧ RelV (.int 3) u
  c_MOST_NAMES : ∃ u, mg "MOST_NAMES" = some u ∧ RelV (.int 4) u
  c_MOST_THINGS : ∃ u, mg "MOST_THINGS" = some u ∧ RelV (.int 100) u
  c_MOST_DEEP : ∃ u, mg "MOST_DEEP" = some u ∧ RelV (.int 8) u
  c_TIMES : ∃ u, mg "TIMES" = some u ∧ RelV (.int 10) u
  c_PARTS : ∃ u, mg "PARTS" = some u ∧ RelV (.ref (He.ga K "PARTS")) u
  c_TWO : ∃ u, mg "TWO" = some u ∧ RelV (.ref (He.ga K "TWO")) u
  c_DEEDS : ∃ u, mg "DEEDS" = some u ∧ RelV (.ref (He.ga K "DEEDS")) u
  c_MOST_FRAMES : ∃ u, mg "MOST_FRAMES" = some u ∧ RelV (.int 20) u
  c_MOST_DEEDS : ∃ u, mg "MOST_DEEDS" = some u ∧ RelV (.int 2000) u
  c_MOST_STOPS : ∃ u, mg "MOST_STOPS" = some u ∧ RelV (.int 20) u
  c_WAYS : ∃ u, mg "WAYS" = some u ∧ RelV (.ref (He.ga K "WAYS")) u
  n_len : mg "len" = none
  n_zip : mg "zip" = none
  n_isinstance : mg "isinstance" = none
  n_range : mg "range" = none
  n_enumerate : mg "enumerate" = none
  n_int : mg "int" = none
  n_list : mg "list" = none
  n_sorted : mg "sorted" = none
  n_tuple : mg "tuple" = none
  n_str : mg "str" = none
  n_bool : mg "bool" = none
  n_sum : mg "sum" = none
  n_max : mg "max" = none
  n_min : mg "min" = none
theorem sc_f_is_number : FnScope n_f_is_number ["thing"] (defScope s_f_is_number) := ⟨rfl, rfl, rfl, by decide +kernel, rfl, by decide +kernel, by decide +kernel⟩
theorem der_f_is_number {P : Program} {w : World} {K : PySem.W.Frag} {mg : Str → Option Value} {base : Heap} {j : Nat}  (F : Fcts K) (G : Gx K mg)  {f : Addr} {cdv : Value} {A : Around} {outer : List Env} {s : Shared} {H : Hp} {E : XK} (hr : Room j (A.deeper (envOfC "is_number" (defScope s_f_is_number) s.heap.objs.size f cdv))) :
    PSs (cxOf CX0 P w K mg base n_f_is_number "is_number" (defScope s_f_is_number) f cdv A outer s H E).nox (defBody s_f_is_number) (t_f_is_number K w ) :=
 (pss_one (ps_ret (pe_and (pe_callB call_isi' (by rfl) G.n_isinstance (by decide +kernel) (pa_cons (pv 0) (pa_cons (pe_bltn (by rfl) G.n_int boot_int rfl) pa_nil))) (pe_one (pe_not (pe_callB call_isi' (by rfl) G.n_isinstance (by decide +kernel) (pa_cons (pv 0) (pa_cons (pe_bltn (by rfl) G.n_bool boot_bool rfl) pa_nil))))))))
theorem sc_m_Looker_init : FnScope n_m_Looker_init ["self", "many", "params"] (defScope s_m_Looker_init) := ⟨rfl, rfl, rfl, by decide +kernel, rfl, by decide +kernel, by decide +kernel⟩
theorem der_m_Looker_init {P : Program} {w : World} {K : PySem.W.Frag} {mg : Str → Option Value} {base : Heap} {j : Nat}  (F : Fcts K) (G : Gx K mg)  {f : Addr} {cdv : Value} {A : Around} {outer : List Env} {s : Shared} {H : Hp} {E : XK} (hr : Room j (A.deeper (envOfC "Looker.__init__" (defScope s_m_Looker_init) s.heap.objs.size f cdv))) :
    PSs (cxOf CX0 P w K mg base n_m_Looker_init "Looker.__init__" (defScope s_m_Looker_init) f cdv A outer s H E).nox (defBody s_m_Looker_init) (t_m_Looker_init K w ) :=
 (pss_cons (ps_fld (pv 0) (pv 1) rfl)
 (pss_cons (ps_fld (pv 0) (pv 2) rfl)
 (pss_cons (ps_fld (pv 0) pe_int rfl)
 (pss_one (ps_fld (pv 0) pe_int rfl)))))
theorem sc_m_Looker_begin : FnScope n_m_Looker_begin ["self", "thing", "is_deed", "deep"] (defScope s_m_Looker_begin) := ⟨rfl, rfl, rfl, by decide +kernel, rfl, by decide +kernel, by decide +kernel⟩
theorem der_m_Looker_begin {P : Program} {w : World} {K : PySem.W.Frag} {mg : Str → Option Value} {base : Heap} {j : Nat}  (F : Fcts K) (G : Gx K mg) (c_is_number : Cal P w K mg base j "is_number" (sp_is_number K w) []) (c_Looker_bounds : Met P w K mg base j (He.ga K "Looker") "bounds" (sp_Looker_bounds K w) []) {f : Addr} {cdv : Value} {A : Around} {outer : List Env} {s : Shared} {H : Hp} {E : XK} (hr : Room j (A.deeper (envOfC "Looker.begin" (defScope s_m_Looker_begin) s.heap.objs.size f cdv))) :
    PSs (cxOf CX0 P w K mg base n_m_Looker_begin "Looker.begin" (defScope s_m_Looker_begin) f cdv A outer s H E).nox (defBody s_m_Looker_begin) (t_m_Looker_begin K w ) :=
 (pss_cons (ps_set (i := 4) sc_m_Looker_begin.nd rfl (Or.inl rfl) (pe_xfLooker_seen F (pv 0) rfl))
 (pss_cons (ps_if (pt_cmpR op_eq (pv 4) (pe_gc rfl (G.c_MOST_THINGS)) (nomark _)) (pss_one ps_never) pss_nil)
 (pss_cons (ps_xsLooker_seen F (pv 0) (pe_op op_add (pv 4) pe_int) rfl)
 (pss_cons (ps_if (pt_cmpR op_gt (pv 3) (pe_gc rfl (G.c_MOST_DEEP)) (nomark _)) (pss_one ps_never) pss_nil)
 (pss_cons (ps_if (PW.pt (pw_or (pt_not (pt_val (pe_callB call_isi' (by rfl) G.n_isinstance (by decide +kernel) (pa_cons (pv 1) (pa_cons (pe_bltn (by rfl) G.n_tuple boot_tuple rfl) pa_nil))))) (pw_or (pt_cmpR op_eq (pe_callB call_len_seq (by rfl) G.n_len PySem.boot_len (pa_cons (pv 1) pa_nil)) pe_int (nomark _)) (pw_or1 (pt_not (pt_val (pe_callB call_isi' (by rfl) G.n_isinstance (by decide +kernel) (pa_cons (pe_ix ix_tup (pv 1) pe_int (fun _ _ => rfl)) (pa_cons (pe_bltn (by rfl) G.n_str boot_str rfl) pa_nil))))))))) (pss_one ps_never) pss_nil)
 (pss_cons (ps_set (i := 5) sc_m_Looker_begin.nd rfl (Or.inl rfl) (pe_ifExp (pt_val (pv 2)) (pe_kget (pe_gc rfl (G.c_DEEDS)) (pe_ix ix_tup (pv 1) pe_int (fun _ _ => rfl)) pe_non ⟨rfl, rfl, rfl, rfl⟩) (pe_ifExp (pt_cmpR op_in_seq (pe_ix ix_tup (pv 1) pe_int (fun _ _ => rfl)) (pe_gc rfl (G.c_TWO)) (by rfl)) pe_str (pe_kget (pe_gc rfl (G.c_PARTS)) (pe_ix ix_tup (pv 1) pe_int (fun _ _ => rfl)) pe_non ⟨rfl, rfl, rfl, rfl⟩))))
 (pss_cons (ps_if (PW.pt (pw_or (pt_cmpR op_isN (pv 5) pe_non (nomark _)) (pw_or1 (pt_cmpR op_ne (pe_callB call_len_seq (by rfl) G.n_len PySem.boot_len (pa_cons (pv 1) pa_nil)) (pe_op op_add (pe_callB call_len_str (by rfl) G.n_len PySem.boot_len (pa_cons (pv 5) pa_nil)) pe_int) (nomark _))))) (pss_one ps_never) pss_nil)
 (pss_cons (ps_for PassesOwn.never rfl (pi_zipST rfl G.n_zip (pa_cons (pv 5) (pa_cons (pe_slice sl_tup (pv 1) (po_some pe_int) po_none) pa_nil))) (pg_tup rfl (pgs_cons (pg_name (i := 6) sc_m_Looker_begin.nd rfl (Or.inl rfl)) (pgs_cons (pg_name (i := 7) sc_m_Looker_begin.nd rfl (Or.inl rfl)) pgs_nil))) (pss_one (ps_if (PW.pt (pw_or (PW.pt (pw_and (pt_cmpR op_in_sign (pv 6) pe_str rfl) (pw_and1 (pt_not (pt_val (pe_c c_is_number hr (by omega) (by rfl) (pa_cons (pv 7) pa_nil))))))) (pw_or1 (PW.pt (pw_and (pt_cmpR op_in_sign (pv 6) pe_str rfl) (pw_and1 (pt_not (pt_val (pe_callB call_isi' (by rfl) G.n_isinstance (by decide +kernel) (pa_cons (pv 7) (pa_cons (pe_bltn (by rfl) G.n_tuple boot_tuple rfl) pa_nil))))))))))) (pss_one ps_never) pss_nil)))
 (pss_cons (ps_for PassesOwn.never rfl (pi_zipST rfl G.n_zip (pa_cons (pv 5) (pa_cons (pe_slice sl_tup (pv 1) (po_some pe_int) po_none) pa_nil))) (pg_tup rfl (pgs_cons (pg_name (i := 6) sc_m_Looker_begin.nd rfl (Or.inl rfl)) (pgs_cons (pg_name (i := 7) sc_m_Looker_begin.nd rfl (Or.inl rfl)) pgs_nil))) (pss_one (ps_expr (pe_mt c_Looker_bounds hr (by omega) (pv 0) (pa_cons (pv 6) (pa_cons (pv 7) (pa_cons (pv 1) (pa_cons (pv 4) pa_nil))))))))
 (pss_one (ps_ret (pv 5))))))))))))
theorem sc_m_Looker_bounds : FnScope n_m_Looker_bounds ["self", "kind", "part", "thing", "at"] (defScope s_m_Looker_bounds) := ⟨rfl, rfl, rfl, by decide +kernel, rfl, by decide +kernel, by decide +kernel⟩
theorem der_m_Looker_bounds {P : Program} {w : World} {K : PySem.W.Frag} {mg : Str → Option Value} {base : Heap} {j : Nat}  (F : Fcts K) (G : Gx K mg)  {f : Addr} {cdv : Value} {A : Around} {outer : List Env} {s : Shared} {H : Hp} {E : XK} (hr : Room j (A.deeper (envOfC "Looker.bounds" (defScope s_m_Looker_bounds) s.heap.objs.size f cdv))) :
    PSs (cxOf CX0 P w K mg base n_m_Looker_bounds "Looker.bounds" (defScope s_m_Looker_bounds) f cdv A outer s H E).nox (defBody s_m_Looker_bounds) (t_m_Looker_bounds K w ) :=
 (pss_cons (ps_set (i := 5) sc_m_Looker_bounds.nd rfl (Or.inl rfl) (pe_dget2 (hu_of hr) (pe_disp (pps_cons pe_str (pe_gc rfl (G.c_REST)) (pps_cons pe_str (pe_xfLooker_names F (pv 0) rfl) (pps_cons pe_str (pe_xfLooker_many F (pv 0) rfl) (pps_cons pe_str (pe_callB call_len_seq (by rfl) G.n_len PySem.boot_len (pa_cons (pe_xfLooker_params F (pv 0) rfl) pa_nil)) pps_nil)))) (by rfl) (by rfl) (fun z => by cases z) (by decide)) (pv 1) pe_non ⟨rfl, rfl, rfl, rfl⟩))
 (pss_cons (ps_if (PW.pt (pw_and (pt_cmpR op_notN (pv 5) pe_non (nomark _)) (pw_and1 (pt_not (pt_chain op_le op_lt pe_int (pv 2) (pv 5)))))) (pss_one ps_never) pss_nil)
 (pss_one (ps_if (PW.pt (pw_and (pt_cmpR op_eq (pv 1) pe_str (nomark _)) (pw_and1 (pt_cmpR op_ne (pe_callB call_len_seq (by rfl) G.n_len PySem.boot_len (pa_cons (pv 2) pa_nil)) (pe_ix ix_list (pe_xfLooker_params F (pv 0) rfl) (pe_ix ix_tup (pv 3) pe_int (fun _ _ => rfl)) (fun _ _ => rfl)) (nomark _))))) (pss_one ps_never) pss_nil))))
theorem sc_m_Looker_part : FnScope n_m_Looker_part ["self", "part", "deep"] (defScope s_m_Looker_part) := ⟨rfl, rfl, rfl, by decide +kernel, rfl, by decide +kernel, by decide +kernel⟩
theorem der_m_Looker_part {P : Program} {w : World} {K : PySem.W.Frag} {mg : Str → Option Value} {base : Heap} {j : Nat} (n : Nat) (F : Fcts K) (G : Gx K mg) (c_Looker_begin : Met P w K mg base j (He.ga K "Looker") "begin" (sp_Looker_begin K w) []) (c_Looker_part : Met P w K mg base j (He.ga K "Looker") "part" (sp_Looker_part n K w) []) {f : Addr} {cdv : Value} {A : Around} {outer : List Env} {s : Shared} {H : Hp} {E : XK} (hr : Room j (A.deeper (envOfC "Looker.part" (defScope s_m_Looker_part) s.heap.objs.size f cdv))) :
    PSs (cxOf CX0 P w K mg base n_m_Looker_part "Looker.part" (defScope s_m_Looker_part) f cdv A outer s H E).nox (defBody s_m_Looker_part) (t_m_Looker_part K w n) :=
 (pss_one (ps_for PassesOwn.never rfl (pi_zipST rfl G.n_zip (pa_cons (pe_mt c_Looker_begin hr (by omega) (pv 0) (pa_cons (pv 1) (pa_cons pe_bl (pa_cons (pv 2) pa_nil)))) (pa_cons (pe_slice sl_tup (pv 1) (po_some pe_int) po_none) pa_nil))) (pg_tup rfl (pgs_cons (pg_name (i := 3) sc_m_Looker_part.nd rfl (Or.inl rfl)) (pgs_cons (pg_name (i := 4) sc_m_Looker_part.nd rfl (Or.inl rfl)) pgs_nil))) (pss_one (ps_if (pt_cmpR op_eq (pv 3) pe_str (nomark _)) (pss_one (ps_expr (pe_mt c_Looker_part hr (by omega) (pv 0) (pa_cons (pv 4) (pa_cons (pe_op op_add (pv 2) pe_int) pa_nil))))) pss_nil))))
theorem sc_m_Looker_body : FnScope n_m_Looker_body ["self", "body", "deep"] (defScope s_m_Looker_body) := ⟨rfl, rfl, rfl, by decide +kernel, rfl, by decide +kernel, by decide +kernel⟩
theorem der_m_Looker_body {P : Program} {w : World} {K : PySem.W.Frag} {mg : Str → Option Value} {base : Heap} {j : Nat} (n : Nat) (F : Fcts K) (G : Gx K mg) (c_Looker_begin : Met P w K mg base j (He.ga K "Looker") "begin" (sp_Looker_begin K w) []) (c_Looker_part : Met P w K mg base j (He.ga K "Looker") "part" (sp_Looker_part n K w) []) (c_Looker_body : Met P w K mg base j (He.ga K "Looker") "body" (sp_Looker_body n K w) []) {f : Addr} {cdv : Value} {A : Around} {outer : List Env} {s : Shared} {H : Hp} {E : XK} (hr : Room j (A.deeper (envOfC "Looker.body" (defScope s_m_Looker_body) s.heap.objs.size f cdv))) :
    PSs (cxOf CX0 P w K mg base n_m_Looker_body "Looker.body" (defScope s_m_Looker_body) f cdv A outer s H E).nox (defBody s_m_Looker_body) (t_m_Looker_body K w n) :=
 (pss_one (ps_for PassesOwn.never rfl (pi_tup (pv 1)) (pg_name (i := 3) sc_m_Looker_body.nd rfl (Or.inl rfl)) (pss_one (ps_for PassesOwn.never rfl (pi_zipST rfl G.n_zip (pa_cons (pe_mt c_Looker_begin hr (by omega) (pv 0) (pa_cons (pv 3) (pa_cons pe_bl (pa_cons (pv 2) pa_nil)))) (pa_cons (pe_slice sl_tup (pv 3) (po_some pe_int) po_none) pa_nil))) (pg_tup rfl (pgs_cons (pg_name (i := 4) sc_m_Looker_body.nd rfl (Or.inl rfl)) (pgs_cons (pg_name (i := 5) sc_m_Looker_body.nd rfl (Or.inl rfl)) pgs_nil))) (pss_one (ps_if (pt_cmpR op_eq (pv 4) pe_str (nomark _)) (pss_one (ps_expr (pe_mt c_Looker_part hr (by omega) (pv 0) (pa_cons (pv 5) (pa_cons (pe_op op_add (pv 2) pe_int) pa_nil))))) (pss_one (ps_if (pt_cmpR op_eq (pv 4) pe_str (nomark _)) (pss_one (ps_expr (pe_mt c_Looker_body hr (by omega) (pv 0) (pa_cons (pv 5) (pa_cons (pe_op op_add (pv 2) pe_int) pa_nil))))) (pss_one (ps_if (pt_cmpR op_eq (pv 4) pe_str (nomark _)) (pss_one (ps_for PassesOwn.never rfl (pi_tup (pv 5)) (pg_name (i := 6) sc_m_Looker_body.nd rfl (Or.inl rfl)) (pss_one (ps_expr (pe_mt c_Looker_part hr (by omega) (pv 0) (pa_cons (pv 6) (pa_cons (pe_op op_add (pv 2) pe_int) pa_nil))))))) pss_nil))))))))))
theorem sc_f_need_head : FnScope n_f_need_head ["program"] (defScope s_f_need_head) := ⟨rfl, rfl, rfl, by decide +kernel, rfl, by decide +kernel, by decide +kernel⟩
theorem der_f_need_head {P : Program} {w : World} {K : PySem.W.Frag} {mg : Str → Option Value} {base : Heap} {j : Nat}  (F : Fcts K) (G : Gx K mg)  {f : Addr} {cdv : Value} {A : Around} {outer : List Env} {s : Shared} {H : Hp} {E : XK} (hr : Room j (A.deeper (envOfC "need_head" (defScope s_f_need_head) s.heap.objs.size f cdv))) :
    PSs (cxOf CX0 P w K mg base n_f_need_head "need_head" (defScope s_f_need_head) f cdv A outer s H E).nox (defBody s_f_need_head) (t_f_need_head K w ) :=
 (pss_cons (ps_asg (pv 0) (pg_tup rfl (pgs_cons (pg_name (i := 1) sc_f_need_head.nd rfl (Or.inl rfl)) (pgs_cons (pg_name (i := 2) sc_f_need_head.nd rfl (Or.inl rfl)) (pgs_cons (pg_name (i := 3) sc_f_need_head.nd rfl (Or.inl rfl)) pgs_nil)))))
 (pss_cons (ps_if (PW.pt (pw_or (pt_not (pt_chain op_le op_le pe_int (pe_callB call_len_seq (by rfl) G.n_len PySem.boot_len (pa_cons (pv 1) pa_nil)) (pe_gc rfl (G.c_MOST_CELLS)))) (pw_or1 (pt_cmpR (op_neNil (hu_of hr)) (pe_lc (own := [("number", 4)]) (g := (gName 4)) (tt := (tNot (tTest (tChain (rI0 fun i j => .bl (decide (i ≤ j))) (rI0 fun i j => .bl (decide (i < j))) (tC (.int 0)) (tVar 4) (tC (.int 10007)))))) rfl sc_f_need_head.nd (pi_tup (pv 1)) (blkOk_by (own := [("number", 4)]) (N := n_f_need_head) (sc := defScope s_f_need_head) (by decide +kernel)) (fun _ _ _ _ _ => (pg_name (i := 4) sc_f_need_head.nd rfl (Or.inl rfl))) (fun _ _ _ _ _ => (pts_one (pt_not (pt_chain op_le op_lt pe_int (pv 4) (pe_gc rfl (G.c_REST)))))) (fun _ _ _ _ _ => (pv 4))) (pe_lst pa_nil) (nomark _))))) (pss_one ps_never) pss_nil)
 (pss_cons (ps_if (pt_not (pt_chain op_le op_le pe_int (pe_callB call_len_seq (by rfl) G.n_len PySem.boot_len (pa_cons (pv 2) pa_nil)) (pe_gc rfl (G.c_MOST_FUNS)))) (pss_one ps_never) pss_nil)
 (pss_cons (ps_for PassesOwn.never rfl (pi_tup (pv 2)) (pg_tup rfl (pgs_cons (pg_name (i := 5) sc_f_need_head.nd rfl (Or.inl rfl)) (pgs_cons (pg_name (i := 6) sc_f_need_head.nd rfl (Or.inl rfl)) (pgs_cons (pg_name (i := 7) sc_f_need_head.nd rfl (Or.inl rfl)) pgs_nil)))) (pss_one (ps_if (pt_not (pt_chain3 op_le op_le op_le pe_int (pv 5) (pv 6) (pe_gc rfl (G.c_MOST_NAMES)))) (pss_one ps_never) pss_nil)))
 (pss_cons (ps_if (pt_not (pt_chain op_le op_le pe_int (pe_callB call_len_seq (by rfl) G.n_len PySem.boot_len (pa_cons (pv 3) pa_nil)) (pe_gc rfl (G.c_MOST_HANDS)))) (pss_one ps_never) pss_nil)
 (pss_one (ps_for PassesOwn.never rfl (pi_tup (pv 3)) (pg_name (i := 8) sc_f_need_head.nd rfl (Or.inl rfl)) (pss_one (ps_if (PW.pt (pw_or (pt_not (pt_chain op_le op_lt pe_int (pv 8) (pe_callB call_len_seq (by rfl) G.n_len PySem.boot_len (pa_cons (pv 2) pa_nil)))) (pw_or1 (pt_cmpR op_gt (pe_ix ix_tup (pe_ix ix_tup (pv 2) (pv 8) (fun _ _ => rfl)) pe_int (fun _ _ => rfl)) pe_int (nomark _))))) (pss_one ps_never) pss_nil)))))))))
theorem sc_f_need_program : FnScope n_f_need_program ["program"] (defScope s_f_need_program) := ⟨rfl, rfl, rfl, by decide +kernel, rfl, by decide +kernel, by decide +kernel⟩
theorem der_f_need_program {P : Program} {w : World} {K : PySem.W.Frag} {mg : Str → Option Value} {base : Heap} {j : Nat}  (F : Fcts K) (G : Gx K mg) (c_need_head : Cal P w K mg base j "need_head" (sp_need_head K w) []) {jm_Looker : Nat} (hj_Looker : jm_Looker + 1 ≤ j) (c_Looker : Mak P w K mg base jm_Looker "Looker" (He.ga K "Looker") (sp_Looker_init K w) []) (c_Looker_body : Met P w K mg base j (He.ga K "Looker") "body" (sp_Looker_body 9 K w) []) {f : Addr} {cdv : Value} {A : Around} {outer : List Env} {s : Shared} {H : Hp} {E : XK} (hr : Room j (A.deeper (envOfC "need_program" (defScope s_f_need_program) s.heap.objs.size f cdv))) :
    PSs (cxOf CX0 P w K mg base n_f_need_program "need_program" (defScope s_f_need_program) f cdv A outer s H E).nox (defBody s_f_need_program) (t_f_need_program K w ) :=
 (pss_cons (ps_expr (pe_c c_need_head hr (by omega) (by rfl) (pa_cons (pv 0) pa_nil)))
 (pss_cons (ps_asg (pv 0) (pg_tup rfl (pgs_cons (pg_name (i := 1) sc_f_need_program.nd rfl (Or.inl rfl)) (pgs_cons (pg_name (i := 2) sc_f_need_program.nd rfl (Or.inl rfl)) (pgs_cons (pg_name (i := 3) sc_f_need_program.nd rfl (Or.inl rfl)) pgs_nil)))))
 (pss_cons (ps_set (i := 4) sc_f_need_program.nd rfl (Or.inl rfl) (pe_mk c_Looker hr (by omega) (by rfl) (pa_cons (pe_callB call_len_seq (by rfl) G.n_len PySem.boot_len (pa_cons (pv 1) pa_nil)) (pa_cons (pe_lc (own := [("params", 5), ("names", 6), ("body", 7)]) (g := (gTup K 3 (gCons (gName 5) (gCons (gName 6) (gCons (gName 7) gNil))))) (tt := tYes) rfl sc_f_need_program.nd (pi_tup (pv 2)) (blkOk_by (own := [("params", 5), ("names", 6), ("body", 7)]) (N := n_f_need_program) (sc := defScope s_f_need_program) (by decide +kernel)) (fun _ _ _ _ _ => (pg_tup rfl (pgs_cons (pg_name (i := 5) sc_f_need_program.nd rfl (Or.inl rfl)) (pgs_cons (pg_name (i := 6) sc_f_need_program.nd rfl (Or.inl rfl)) (pgs_cons (pg_name (i := 7) sc_f_need_program.nd rfl (Or.inl rfl)) pgs_nil))))) (fun _ _ _ _ _ => pts_nil) (fun _ _ _ _ _ => (pv 5))) pa_nil))))
 (pss_one (ps_for PassesOwn.never rfl (pi_tup (pv 2)) (pg_tup rfl (pgs_cons (pg_name (i := 5) sc_f_need_program.nd rfl (Or.inl rfl)) (pgs_cons (pg_name (i := 6) sc_f_need_program.nd rfl (Or.inl rfl)) (pgs_cons (pg_name (i := 7) sc_f_need_program.nd rfl (Or.inl rfl)) pgs_nil)))) (pss_cons (ps_xsLooker_names F (pv 4) (pv 6) rfl)
 (pss_one (ps_expr (pe_mt c_Looker_body hr (by omega) (pv 4) (pa_cons (pv 7) (pa_cons pe_int pa_nil)))))))))))
theorem sc_f_is_wish : FnScope n_f_is_wish ["part", "program", "fun"] (defScope s_f_is_wish) := ⟨rfl, rfl, rfl, by decide +kernel, rfl, by decide +kernel, by decide +kernel⟩
theorem der_f_is_wish {P : Program} {w : World} {K : PySem.W.Frag} {mg : Str → Option Value} {base : Heap} {j : Nat}  (F : Fcts K) (G : Gx K mg) {jm_Looker : Nat} (hj_Looker : jm_Looker + 1 ≤ j) (c_Looker : Mak P w K mg base jm_Looker "Looker" (He.ga K "Looker") (sp_Looker_init K w) []) (c_Looker_part : Met P w K mg base j (He.ga K "Looker") "part" (sp_Looker_part 8 K w) []) {f : Addr} {cdv : Value} {A : Around} {outer : List Env} {s : Shared} {H : Hp} {E : XK} (hr : Room j (A.deeper (envOfC "is_wish" (defScope s_f_is_wish) s.heap.objs.size f cdv))) :
    PSs (cxOf CX0 P w K mg base n_f_is_wish "is_wish" (defScope s_f_is_wish) f cdv A outer s H E).nox (defBody s_f_is_wish) (t_f_is_wish K w ) :=
 (pss_cons (ps_set (i := 3) sc_f_is_wish.nd rfl (Or.inl rfl) (pe_mk c_Looker hr (by omega) (by rfl) (pa_cons (pe_callB call_len_seq (by rfl) G.n_len PySem.boot_len (pa_cons (pe_ix ix_tup (pv 1) pe_int (fun _ _ => rfl)) pa_nil)) (pa_cons (pe_lst pa_nil) pa_nil))))
 (pss_cons (ps_xsLooker_names F (pv 3) (pe_ix ix_tup (pe_ix ix_tup (pe_ix ix_tup (pv 1) pe_int (fun _ _ => rfl)) (pv 2) (fun _ _ => rfl)) pe_int (fun _ _ => rfl)) rfl)
 (pss_cons (ps_try_thru0 (pss_one (ps_expr (pe_mt c_Looker_part hr (by omega) (pv 3) (pa_cons (pv 0) (pa_cons pe_int pa_nil))))))
 (pss_one (ps_ret pe_bl)))))
theorem sc_m_Numberer_init : FnScope n_m_Numberer_init ["self"] (defScope s_m_Numberer_init) := ⟨rfl, rfl, rfl, by decide +kernel, rfl, by decide +kernel, by decide +kernel⟩
theorem der_m_Numberer_init {P : Program} {w : World} {K : PySem.W.Frag} {mg : Str → Option Value} {base : Heap} {j : Nat}  (F : Fcts K) (G : Gx K mg)  {f : Addr} {cdv : Value} {A : Around} {outer : List Env} {s : Shared} {H : Hp} {E : XK} (hr : Room j (A.deeper (envOfC "Numberer.__init__" (defScope s_m_Numberer_init) s.heap.objs.size f cdv))) :
    PSs (cxOf CX0 P w K mg base n_m_Numberer_init "Numberer.__init__" (defScope s_m_Numberer_init) f cdv A outer s H E).nox (defBody s_m_Numberer_init) (t_m_Numberer_init K w ) :=
 (pss_cons (ps_fld (pv 0) pe_int rfl)
 (pss_one (ps_fld (pv 0) (pe_lst pa_nil) rfl)))
theorem sc_m_Numberer_body : FnScope n_m_Numberer_body ["self", "body", "fun"] (defScope s_m_Numberer_body) := ⟨rfl, rfl, rfl, by decide +kernel, rfl, by decide +kernel, by decide +kernel⟩
theorem der_m_Numberer_body {P : Program} {w : World} {K : PySem.W.Frag} {mg : Str → Option Value} {base : Heap} {j : Nat} (n : Nat) (F : Fcts K) (G : Gx K mg) (c_Numberer_body : Met P w K mg base j (He.ga K "Numberer") "body" (sp_Numberer_body n K w) []) {f : Addr} {cdv : Value} {A : Around} {outer : List Env} {s : Shared} {H : Hp} {E : XK} (hr : Room j (A.deeper (envOfC "Numberer.body" (defScope s_m_Numberer_body) s.heap.objs.size f cdv))) :
    PSs (cxOf CX0 P w K mg base n_m_Numberer_body "Numberer.body" (defScope s_m_Numberer_body) f cdv A outer s H E).nox (defBody s_m_Numberer_body) (t_m_Numberer_body K w n) :=
 (pss_cons (ps_set (i := 3) sc_m_Numberer_body.nd rfl (Or.inl rfl) (pe_lst pa_nil))
 (pss_cons (ps_for PassesOwn.never rfl (pi_tup (pv 1)) (pg_name (i := 4) sc_m_Numberer_body.nd rfl (Or.inl rfl)) (pss_cons (ps_set (i := 5) sc_m_Numberer_body.nd rfl (Or.inl rfl) (pe_xfNumberer_count F (pv 0) rfl))
 (pss_cons (ps_xsNumberer_count F (pv 0) (pe_op op_add (pv 5) pe_int) rfl)
 (pss_cons (ps_expr (pe_bm PySem.F.plainAttrs_list PySem.F.slot_list_append PySem.F.type_list_append mt_append (pe_xfNumberer_funs F (pv 0) rfl) (pa_cons (pv 2) pa_nil)))
 (pss_cons (ps_frzS (ps_setLc (i := 6) (own := [("kind", 7), ("part", 8)]) (g := (gTup K 2 (gCons (gName 7) (gCons (gName 8) gNil)))) (tt := (tTest (tOp rEq (tVar 7) (tC (.str "b"))))) rfl sc_m_Numberer_body.nd rfl rfl (sw_true rfl rfl rfl (by decide +kernel)) (pi_zipST rfl G.n_zip (pa_cons (pe_ix ix_ktab (pe_gc rfl (G.c_DEEDS)) (pe_ix ix_tup (pv 4) pe_int (fun _ _ => rfl)) (fun _ _ => rfl)) (pa_cons (pe_slice sl_tup (pv 4) (po_some pe_int) po_none) pa_nil))) (blkOk_by (own := [("kind", 7), ("part", 8)]) (N := n_m_Numberer_body) (sc := defScope s_m_Numberer_body) (by decide +kernel)) (fun _ _ _ _ _ => (pg_tup rfl (pgs_cons (pg_name (i := 7) sc_m_Numberer_body.nd rfl (Or.inl rfl)) (pgs_cons (pg_name (i := 8) sc_m_Numberer_body.nd rfl (Or.inl rfl)) pgs_nil)))) (fun _ _ _ _ _ => (pts_one (pt_cmpR op_eq (pv 7) pe_str (nomark _)))) (fun _ _ _ _ _ => (pe_mt c_Numberer_body hr (by omega) (pv 0) (pa_cons (pv 8) (pa_cons (pv 2) pa_nil))))))
 (pss_one (ps_expr (pe_bm PySem.F.plainAttrs_list PySem.F.slot_list_append PySem.F.type_list_append mt_append (pv 3) (pa_cons (pe_tup (pa_cons (pv 5) (pa_cons (pv 4) (pa_cons (pv 6) pa_nil)))) pa_nil)))))))))
 (pss_one (ps_ret (pe_frzE (pv 3))))))
theorem sc_f_numbered : FnScope n_f_numbered ["program"] (defScope s_f_numbered) := ⟨rfl, rfl, rfl, by decide +kernel, rfl, by decide +kernel, by decide +kernel⟩
theorem der_f_numbered {P : Program} {w : World} {K : PySem.W.Frag} {mg : Str → Option Value} {base : Heap} {j : Nat}  (F : Fcts K) (G : Gx K mg) {jm_Numberer : Nat} (hj_Numberer : jm_Numberer + 1 ≤ j) (c_Numberer : Mak P w K mg base jm_Numberer "Numberer" (He.ga K "Numberer") (sp_Numberer_init K w) []) (c_Numberer_body : Met P w K mg base j (He.ga K "Numberer") "body" (sp_Numberer_body 9 K w) []) {f : Addr} {cdv : Value} {A : Around} {outer : List Env} {s : Shared} {H : Hp} {E : XK} (hr : Room j (A.deeper (envOfC "numbered" (defScope s_f_numbered) s.heap.objs.size f cdv))) :
    PSs (cxOf CX0 P w K mg base n_f_numbered "numbered" (defScope s_f_numbered) f cdv A outer s H E).nox (defBody s_f_numbered) (t_f_numbered K w ) :=
 (pss_cons (ps_set (i := 1) sc_f_numbered.nd rfl (Or.inr rfl) (pe_mk0 c_Numberer hr (by omega) (by rfl)))
 (pss_cons (ps_frzS (ps_setLc (i := 2) (own := [("number", 3), ("fun", 4)]) (g := (gTup K 2 (gCons (gName 3) (gCons (gName 4) gNil)))) (tt := tYes) rfl sc_f_numbered.nd rfl rfl (sw_true rfl rfl rfl (by decide +kernel)) (pi_enumT rfl G.n_enumerate (pa_cons (pe_ix ix_tup (pv 0) pe_int (fun _ _ => rfl)) pa_nil)) (blkOk_by (own := [("number", 3), ("fun", 4)]) (N := n_f_numbered) (sc := defScope s_f_numbered) (by decide +kernel)) (fun _ _ _ _ _ => (pg_tup rfl (pgs_cons (pg_name (i := 3) sc_f_numbered.nd rfl (Or.inl rfl)) (pgs_cons (pg_name (i := 4) sc_f_numbered.nd rfl (Or.inl rfl)) pgs_nil)))) (fun _ _ _ _ _ => pts_nil) (fun _ _ _ _ _ => (pe_mt c_Numberer_body hr (by omega) (pv 1) (pa_cons (pe_ix ix_tup (pv 4) pe_int (fun _ _ => rfl)) (pa_cons (pv 3) pa_nil))))))
 (pss_one (ps_ret (pe_frzE (pe_tup (pa_cons (pv 2) (pa_cons (pe_xfNumberer_funs F (pv 1) rfl) pa_nil))))))))
theorem sc_f_reckoned : FnScope n_f_reckoned ["word", "one", "other"] (defScope s_f_reckoned) := ⟨rfl, rfl, rfl, by decide +kernel, rfl, by decide +kernel, by decide +kernel⟩
theorem der_f_reckoned {P : Program} {w : World} {K : PySem.W.Frag} {mg : Str → Option Value} {base : Heap} {j : Nat}  (F : Fcts K) (G : Gx K mg)  {f : Addr} {cdv : Value} {A : Around} {outer : List Env} {s : Shared} {H : Hp} {E : XK} (hr : Room j (A.deeper (envOfC "reckoned" (defScope s_f_reckoned) s.heap.objs.size f cdv))) :
    PSs (cxOf CX0 P w K mg base n_f_reckoned "reckoned" (defScope s_f_reckoned) f cdv A outer s H E).nox (defBody s_f_reckoned) (t_f_reckoned K w ) :=
 (pss_cons (ps_if (pt_cmpR op_in_seq (pv 0) (pe_tup (pa_cons pe_str (pa_cons pe_str pa_nil))) (by rfl)) (pss_one (ps_ret (pe_ifExp (pt_cmpR op_eq (pv 0) pe_str (nomark _)) (pe_callTy call_int1 (by rfl) G.n_int (by decide +kernel) (pa_cons (pe_cmpR op_lt (pv 1) (pv 2) (nomark _)) pa_nil)) (pe_callTy call_int1 (by rfl) G.n_int (by decide +kernel) (pa_cons (pe_cmpR op_eq (pv 1) (pv 2) (nomark _)) pa_nil))))) pss_nil)
 (pss_one (ps_ret (pe_op op_mod (pe_dget (hu_of hr) (pe_disp (pps_cons pe_str (pe_op op_add (pv 1) (pv 2)) (pps_cons pe_str (pe_op op_sub (pv 1) (pv 2)) (pps_cons pe_str (pe_op op_mul (pv 1) (pv 2)) pps_nil))) (by rfl) (by rfl) (fun z => by cases z) (by decide)) (pv 0) (fun _ _ => rfl)) (pe_gc rfl (G.c_REST))))))
theorem sc_f_worth : FnScope n_f_worth ["part", "names", "cells"] (defScope s_f_worth) := ⟨rfl, rfl, rfl, by decide +kernel, rfl, by decide +kernel, by decide +kernel⟩
theorem der_f_worth {P : Program} {w : World} {K : PySem.W.Frag} {mg : Str → Option Value} {base : Heap} {j : Nat} (n : Nat) (F : Fcts K) (G : Gx K mg) (c_worth : Cal P w K mg base j "worth" (sp_worth n K w) []) (c_reckoned : Cal P w K mg base j "reckoned" (sp_reckoned K w) []) {f : Addr} {cdv : Value} {A : Around} {outer : List Env} {s : Shared} {H : Hp} {E : XK} (hr : Room j (A.deeper (envOfC "worth" (defScope s_f_worth) s.heap.objs.size f cdv))) :
    PSs (cxOf CX0 P w K mg base n_f_worth "worth" (defScope s_f_worth) f cdv A outer s H E).nox (defBody s_f_worth) (t_f_worth K w n) :=
 (pss_cons (ps_if (pt_cmpR op_eq (pe_ix ix_tup (pv 0) pe_int (fun _ _ => rfl)) pe_str (nomark _)) (pss_one (ps_ret (pe_ix ix_tup (pv 0) pe_int (fun _ _ => rfl)))) pss_nil)
 (pss_cons (ps_if (pt_cmpR op_in_seq (pe_ix ix_tup (pv 0) pe_int (fun _ _ => rfl)) (pe_tup (pa_cons pe_str (pa_cons pe_str pa_nil))) (by rfl)) (pss_one (ps_ret (pe_ifExp (pt_cmpR op_eq (pe_ix ix_tup (pv 0) pe_int (fun _ _ => rfl)) pe_str (nomark _)) (pe_ix ix_list (pv 1) (pe_ix ix_tup (pv 0) pe_int (fun _ _ => rfl)) (fun _ _ => rfl)) (pe_ix ix_list (pv 2) (pe_ix ix_tup (pv 0) pe_int (fun _ _ => rfl)) (fun _ _ => rfl))))) pss_nil)
 (pss_one (ps_ret (pe_c c_reckoned hr (by omega) (by rfl) (pa_cons (pe_ix ix_tup (pv 0) pe_int (fun _ _ => rfl)) (pa_cons (pe_c c_worth hr (by omega) (by rfl) (pa_cons (pe_ix ix_tup (pv 0) pe_int (fun _ _ => rfl)) (pa_cons (pv 1) (pa_cons (pv 2) pa_nil)))) (pa_cons (pe_c c_worth hr (by omega) (by rfl) (pa_cons (pe_ix ix_tup (pv 0) pe_int (fun _ _ => rfl)) (pa_cons (pv 1) (pa_cons (pv 2) pa_nil)))) pa_nil))))))))
theorem sc_m_Frame_init : FnScope n_m_Frame_init ["self", "fun", "names", "body"] (defScope s_m_Frame_init) := ⟨rfl, rfl, rfl, by decide +kernel, rfl, by decide +kernel, by decide +kernel⟩
theorem der_m_Frame_init {P : Program} {w : World} {K : PySem.W.Frag} {mg : Str → Option Value} {base : Heap} {j : Nat}  (F : Fcts K) (G : Gx K mg)  {f : Addr} {cdv : Value} {A : Around} {outer : List Env} {s : Shared} {H : Hp} {E : XK} (hr : Room j (A.deeper (envOfC "Frame.__init__" (defScope s_m_Frame_init) s.heap.objs.size f cdv))) :
    PSs (cxOf CX0 P w K mg base n_m_Frame_init "Frame.__init__" (defScope s_m_Frame_init) f cdv A outer s H E).nox (defBody s_m_Frame_init) (t_m_Frame_init K w ) :=
 (pss_cons (ps_fld (pv 0) (pv 1) rfl)
 (pss_cons (ps_fld (pv 0) (pv 2) rfl)
 (pss_cons (ps_fld (pv 0) (pe_lst (pa_cons (pe_tup (pa_cons pe_str (pa_cons (pv 3) pa_nil))) pa_nil)) rfl)
 (pss_one (ps_fld (pv 0) pe_non rfl)))))
theorem sc_m_Machine_init : FnScope n_m_Machine_init ["self", "program"] (defScope s_m_Machine_init) := ⟨rfl, rfl, rfl, by decide +kernel, rfl, by decide +kernel, by decide +kernel⟩
theorem der_m_Machine_init {P : Program} {w : World} {K : PySem.W.Frag} {mg : Str → Option Value} {base : Heap} {j : Nat}  (F : Fcts K) (G : Gx K mg) (c_numbered : Cal P w K mg base j "numbered" (sp_numbered K w) []) (c_Machine_frame : Met P w K mg base j (He.ga K "Machine") "frame" (sp_Machine_frame K w) []) (c_Machine_settle : Met P w K mg base j (He.ga K "Machine") "settle" (sp_Machine_settle K w) []) (c_Machine_seek : Met P w K mg base j (He.ga K "Machine") "seek" (sp_Machine_seek K w) []) {f : Addr} {cdv : Value} {A : Around} {outer : List Env} {s : Shared} {H : Hp} {E : XK} (hr : Room j (A.deeper (envOfC "Machine.__init__" (defScope s_m_Machine_init) s.heap.objs.size f cdv))) :
    PSs (cxOf CX0 P w K mg base n_m_Machine_init "Machine.__init__" (defScope s_m_Machine_init) f cdv A outer s H E).nox (defBody s_m_Machine_init) (t_m_Machine_init K w ) :=
 (pss_cons (ps_fld (pv 0) (pe_ix ix_tup (pe_c c_numbered hr (by omega) (by rfl) (pa_cons (pv 1) pa_nil)) pe_int (fun _ _ => rfl)) rfl)
 (pss_cons (ps_frzS (ps_fld (pv 0) (pe_lc (own := [("fun", 2)]) (g := (gName 2)) (tt := tYes) rfl sc_m_Machine_init.nd (pi_tup (pe_ix ix_tup (pv 1) pe_int (fun _ _ => rfl))) (blkOk_by (own := [("fun", 2)]) (N := n_m_Machine_init) (sc := defScope s_m_Machine_init) (by decide +kernel)) (fun _ _ _ _ _ => (pg_name (i := 2) sc_m_Machine_init.nd rfl (Or.inl rfl))) (fun _ _ _ _ _ => pts_nil) (fun _ _ _ _ _ => (pe_slice sl_tup (pv 2) po_none (po_some pe_int)))) rfl))
 (pss_cons (ps_fld (pv 0) (pe_callTy call_list_of (by rfl) G.n_list (by decide +kernel) (pa_cons (pe_ix ix_tup (pv 1) pe_int (fun _ _ => rfl)) pa_nil)) rfl)
 (pss_cons (ps_frzS (ps_fld (pv 0) (pe_lc (own := [("fun", 2)]) (g := (gName 2)) (tt := tYes) rfl sc_m_Machine_init.nd (pi_tup (pe_ix ix_tup (pv 1) pe_int (fun _ _ => rfl))) (blkOk_by (own := [("fun", 2)]) (N := n_m_Machine_init) (sc := defScope s_m_Machine_init) (by decide +kernel)) (fun _ _ _ _ _ => (pg_name (i := 2) sc_m_Machine_init.nd rfl (Or.inl rfl))) (fun _ _ _ _ _ => pts_nil) (fun _ _ _ _ _ => (pe_lst (pa_cons (pe_mt c_Machine_frame hr (by omega) (pv 0) (pa_cons (pv 2) (pa_cons (pe_lst pa_nil) pa_nil))) pa_nil)))) rfl))
 (pss_cons (ps_fld (pv 0) pe_int rfl)
 (pss_cons (ps_fld (pv 0) (pe_lst pa_nil) rfl)
 (pss_cons (ps_fld (pv 0) pe_int rfl)
 (pss_cons (ps_for PassesOwn.never rfl (pi_range1 rfl G.n_range (pa_cons (pe_callB call_len_seq (by rfl) G.n_len PySem.boot_len (pa_cons (pe_fld (pv 0) rfl) pa_nil)) pa_nil)) (pg_name (i := 3) sc_m_Machine_init.nd rfl (Or.inl rfl)) (pss_one (ps_expr (pe_mt c_Machine_settle hr (by omega) (pv 0) (pa_cons (pv 3) pa_nil)))))
 (pss_one (ps_expr (pe_mt0 c_Machine_seek hr (by omega) (pv 0))))))))))))
theorem sc_m_Machine_frame : FnScope n_m_Machine_frame ["self", "fun", "worths"] (defScope s_m_Machine_frame) := ⟨rfl, rfl, rfl, by decide +kernel, rfl, by decide +kernel, by decide +kernel⟩
theorem der_m_Machine_frame {P : Program} {w : World} {K : PySem.W.Frag} {mg : Str → Option Value} {base : Heap} {j : Nat}  (F : Fcts K) (G : Gx K mg) {jm_Frame : Nat} (hj_Frame : jm_Frame + 1 ≤ j) (c_Frame : Mak P w K mg base jm_Frame "Frame" (He.ga K "Frame") (sp_Frame_init K w) []) {f : Addr} {cdv : Value} {A : Around} {outer : List Env} {s : Shared} {H : Hp} {E : XK} (hr : Room j (A.deeper (envOfC "Machine.frame" (defScope s_m_Machine_frame) s.heap.objs.size f cdv))) :
    PSs (cxOf CX0 P w K mg base n_m_Machine_frame "Machine.frame" (defScope s_m_Machine_frame) f cdv A outer s H E).nox (defBody s_m_Machine_frame) (t_m_Machine_frame K w ) :=
 (pss_one (ps_ret (pe_mk c_Frame hr (by omega) (by rfl) (pa_cons (pv 1) (pa_cons (pe_op op_cat (pv 2) (pe_op op_rep (pe_lst (pa_cons pe_int pa_nil)) (pe_op op_sub (pe_ix ix_tup (pe_ix ix_list (pe_fld (pv 0) rfl) (pv 1) (fun _ _ => rfl)) pe_int (fun _ _ => rfl)) (pe_callB call_len_seq (by rfl) G.n_len PySem.boot_len (pa_cons (pv 2) pa_nil))))) (pa_cons (pe_ix ix_list (pe_fld (pv 0) rfl) (pv 1) (fun _ _ => rfl)) pa_nil))))))
theorem sc_m_Machine_settle : FnScope n_m_Machine_settle ["self", "me"] (defScope s_m_Machine_settle) := ⟨rfl, rfl, rfl, by decide +kernel, rfl, by decide +kernel, by decide +kernel⟩
theorem der_m_Machine_settle {P : Program} {w : World} {K : PySem.W.Frag} {mg : Str → Option Value} {base : Heap} {j : Nat}  (F : Fcts K) (G : Gx K mg) (c_Machine_back : Met P w K mg base j (He.ga K "Machine") "back" (sp_Machine_back K w) []) (c_Machine_unfold : Met P w K mg base j (He.ga K "Machine") "unfold" (sp_Machine_unfold K w) []) {f : Addr} {cdv : Value} {A : Around} {outer : List Env} {s : Shared} {H : Hp} {E : XK} (hr : Room j (A.deeper (envOfC "Machine.settle" (defScope s_m_Machine_settle) s.heap.objs.size f cdv))) :
    PSs (cxOf CX0 P w K mg base n_m_Machine_settle "Machine.settle" (defScope s_m_Machine_settle) f cdv A outer s H E).nox (defBody s_m_Machine_settle) (t_m_Machine_settle K w ) :=
 (pss_cons (ps_set (i := 2) sc_m_Machine_settle.nd rfl (Or.inl rfl) (pe_ix ix_list (pe_xfMachine_hands F (pv 0) rfl) (pv 1) (fun _ _ => rfl)))
 (pss_one (ps_while PassesOwn.never (pt_cmpR (op_neNil (hu_of hr)) (pv 2) (pe_lst pa_nil) (nomark _)) (pss_cons (ps_set (i := 3) sc_m_Machine_settle.nd rfl (Or.inl rfl) (pe_ix ix_list (pv 2) (pe_un un_neg pe_int) (fun _ _ => rfl)))
 (pss_one (ps_if (pt_cmpR (op_eqNil (hu_of hr)) (pe_xfFrame_todo F (pv 3) rfl) (pe_lst pa_nil) (nomark _)) (pss_one (ps_expr (pe_mt c_Machine_back hr (by omega) (pv 0) (pa_cons (pv 2) (pa_cons pe_int pa_nil))))) (pss_one (ps_if (pt_cmpR op_eq (pe_ix ix_tup (pe_ix ix_list (pe_xfFrame_todo F (pv 3) rfl) (pe_un un_neg pe_int) (fun _ _ => rfl)) pe_int (fun _ _ => rfl)) pe_str (nomark _)) (pss_one ps_retN) (pss_one (ps_expr (pe_mt c_Machine_unfold hr (by omega) (pv 0) (pa_cons (pv 3) (pa_cons (pe_bm0 PySem.F.plainAttrs_list PySem.F.slot_list_pop PySem.F.type_list_pop mt_pop (pe_xfFrame_todo F (pv 3) rfl)) pa_nil)))))))))))))
theorem sc_m_Machine_unfold : FnScope n_m_Machine_unfold ["self", "frame", "task"] (defScope s_m_Machine_unfold) := ⟨rfl, rfl, rfl, by decide +kernel, rfl, by decide +kernel, by decide +kernel⟩
theorem der_m_Machine_unfold {P : Program} {w : World} {K : PySem.W.Frag} {mg : Str → Option Value} {base : Heap} {j : Nat}  (F : Fcts K) (G : Gx K mg)  {f : Addr} {cdv : Value} {A : Around} {outer : List Env} {s : Shared} {H : Hp} {E : XK} (hr : Room j (A.deeper (envOfC "Machine.unfold" (defScope s_m_Machine_unfold) s.heap.objs.size f cdv))) :
    PSs (cxOf CX0 P w K mg base n_m_Machine_unfold "Machine.unfold" (defScope s_m_Machine_unfold) f cdv A outer s H E).nox (defBody s_m_Machine_unfold) (t_m_Machine_unfold K w ) :=
 (pss_one (ps_if (pt_cmpR op_eq (pe_ix ix_tup (pv 2) pe_int (fun _ _ => rfl)) pe_str (nomark _)) (pss_one (ps_expr (pe_bm PySem.F.plainAttrs_list PySem.F.slot_list_extend PySem.F.type_list_extend mt_extend (pe_xfFrame_todo F (pv 1) rfl) (pa_cons (pe_lc (own := [("deed", 3)]) (g := (gName 3)) (tt := tYes) rfl sc_m_Machine_unfold.nd (pi_list (pe_revL (pe_ix ix_tup (pv 2) pe_int (fun _ _ => rfl)))) (blkOk_by (own := [("deed", 3)]) (N := n_m_Machine_unfold) (sc := defScope s_m_Machine_unfold) (by decide +kernel)) (fun _ _ _ _ _ => (pg_name (i := 3) sc_m_Machine_unfold.nd rfl (Or.inl rfl))) (fun _ _ _ _ _ => pts_nil) (fun _ _ _ _ _ => (pe_tup (pa_cons pe_str (pa_cons (pv 3) pa_nil))))) pa_nil)))) (pss_one (ps_if (pt_cmpR op_gt (pe_ix ix_tup (pv 2) pe_int (fun _ _ => rfl)) pe_int (nomark _)) (pss_one (ps_expr (pe_bm PySem.F.plainAttrs_list PySem.F.slot_list_extend PySem.F.type_list_extend mt_extend (pe_xfFrame_todo F (pv 1) rfl) (pa_cons (pe_lst (pa_cons (pe_tup (pa_cons pe_str (pa_cons (pe_op op_sub (pe_ix ix_tup (pv 2) pe_int (fun _ _ => rfl)) pe_int) (pa_cons (pe_ix ix_tup (pv 2) pe_int (fun _ _ => rfl)) pa_nil)))) (pa_cons (pe_tup (pa_cons pe_str (pa_cons (pe_ix ix_tup (pv 2) pe_int (fun _ _ => rfl)) pa_nil))) pa_nil))) pa_nil)))) pss_nil))))
theorem sc_m_Machine_back : FnScope n_m_Machine_back ["self", "frames", "number"] (defScope s_m_Machine_back) := ⟨rfl, rfl, rfl, by decide +kernel, rfl, by decide +kernel, by decide +kernel⟩
theorem der_m_Machine_back {P : Program} {w : World} {K : PySem.W.Frag} {mg : Str → Option Value} {base : Heap} {j : Nat}  (F : Fcts K) (G : Gx K mg)  {f : Addr} {cdv : Value} {A : Around} {outer : List Env} {s : Shared} {H : Hp} {E : XK} (hr : Room j (A.deeper (envOfC "Machine.back" (defScope s_m_Machine_back) s.heap.objs.size f cdv))) :
    PSs (cxOf CX0 P w K mg base n_m_Machine_back "Machine.back" (defScope s_m_Machine_back) f cdv A outer s H E).nox (defBody s_m_Machine_back) (t_m_Machine_back K w ) :=
 (pss_cons (ps_expr (pe_bm0 PySem.F.plainAttrs_list PySem.F.slot_list_pop PySem.F.type_list_pop mt_pop (pv 1)))
 (pss_one (ps_if (pt_cmpR (op_neNil (hu_of hr)) (pv 1) (pe_lst pa_nil) (nomark _)) (pss_cons (ps_set (i := 3) sc_m_Machine_back.nd rfl (Or.inl rfl) (pe_ix ix_tup (pe_bm0 PySem.F.plainAttrs_list PySem.F.slot_list_pop PySem.F.type_list_pop mt_pop (pe_xfFrame_todo F (pe_ix ix_list (pv 1) (pe_un un_neg pe_int) (fun _ _ => rfl)) rfl)) pe_int (fun _ _ => rfl)))
 (pss_one (ps_asg (pv 2) (pg_sub (pe_xfFrame_names F (pe_ix ix_list (pv 1) (pe_un un_neg pe_int) (fun _ _ => rfl)) rfl) (pv 3) set_list)))) pss_nil)))
theorem sc_m_Machine_seek : FnScope n_m_Machine_seek ["self"] (defScope s_m_Machine_seek) := ⟨rfl, rfl, rfl, by decide +kernel, rfl, by decide +kernel, by decide +kernel⟩
theorem der_m_Machine_seek {P : Program} {w : World} {K : PySem.W.Frag} {mg : Str → Option Value} {base : Heap} {j : Nat}  (F : Fcts K) (G : Gx K mg)  {f : Addr} {cdv : Value} {A : Around} {outer : List Env} {s : Shared} {H : Hp} {E : XK} (hr : Room j (A.deeper (envOfC "Machine.seek" (defScope s_m_Machine_seek) s.heap.objs.size f cdv))) :
    PSs (cxOf CX0 P w K mg base n_m_Machine_seek "Machine.seek" (defScope s_m_Machine_seek) f cdv A outer s H E).nox (defBody s_m_Machine_seek) (t_m_Machine_seek K w ) :=
 (pss_one (ps_for PassesOwn.never rfl (pi_range1 rfl G.n_range (pa_cons (pe_callB call_len_seq (by rfl) G.n_len PySem.boot_len (pa_cons (pe_xfMachine_hands F (pv 0) rfl) pa_nil)) pa_nil)) (pg_name (i := 1) sc_m_Machine_seek.nd rfl (Or.inl rfl)) (pss_one (ps_if (pt_cmpR (op_eqNil (hu_of hr)) (pe_ix ix_list (pe_xfMachine_hands F (pv 0) rfl) (pe_xfMachine_whose F (pv 0) rfl) (fun _ _ => rfl)) (pe_lst pa_nil) (nomark _)) (pss_one (ps_xsMachine_whose F (pv 0) (pe_op op_mod (pe_op op_add (pe_xfMachine_whose F (pv 0) rfl) pe_int) (pe_callB call_len_seq (by rfl) G.n_len PySem.boot_len (pa_cons (pe_xfMachine_hands F (pv 0) rfl) pa_nil))) rfl)) pss_nil))))
theorem sc_m_Machine_is_over : FnScope n_m_Machine_is_over ["self"] (defScope s_m_Machine_is_over) := ⟨rfl, rfl, rfl, by decide +kernel, rfl, by decide +kernel, by decide +kernel⟩
theorem der_m_Machine_is_over {P : Program} {w : World} {K : PySem.W.Frag} {mg : Str → Option Value} {base : Heap} {j : Nat}  (F : Fcts K) (G : Gx K mg)  {f : Addr} {cdv : Value} {A : Around} {outer : List Env} {s : Shared} {H : Hp} {E : XK} (hr : Room j (A.deeper (envOfC "Machine.is_over" (defScope s_m_Machine_is_over) s.heap.objs.size f cdv))) :
    PSs (cxOf CX0 P w K mg base n_m_Machine_is_over "Machine.is_over" (defScope s_m_Machine_is_over) f cdv A outer s H E).nox (defBody s_m_Machine_is_over) (t_m_Machine_is_over K w ) :=
 (pss_one (ps_ret (pe_cmpR (op_eqNil (hu_of hr)) (pe_lc (own := [("frames", 1)]) (g := (gName 1)) (tt := (tTest (tOp (rEqNil K true) (tVar 1) (tLst tNil)))) rfl sc_m_Machine_is_over.nd (pi_list (pe_xfMachine_hands F (pv 0) rfl)) (blkOk_by (own := [("frames", 1)]) (N := n_m_Machine_is_over) (sc := defScope s_m_Machine_is_over) (by decide +kernel)) (fun _ _ _ _ _ => (pg_name (i := 1) sc_m_Machine_is_over.nd rfl (Or.inl rfl))) (fun _ _ _ _ _ => (pts_one (pt_cmpR (op_neNil (hu_of hr)) (pv 1) (pe_lst pa_nil) (nomark _)))) (fun _ _ _ _ _ => (pv 1))) (pe_lst pa_nil) (nomark _))))
theorem sc_m_Machine_next_place : FnScope n_m_Machine_next_place ["self", "me"] (defScope s_m_Machine_next_place) := ⟨rfl, rfl, rfl, by decide +kernel, rfl, by decide +kernel, by decide +kernel⟩
theorem der_m_Machine_next_place {P : Program} {w : World} {K : PySem.W.Frag} {mg : Str → Option Value} {base : Heap} {j : Nat}  (F : Fcts K) (G : Gx K mg)  {f : Addr} {cdv : Value} {A : Around} {outer : List Env} {s : Shared} {H : Hp} {E : XK} (hr : Room j (A.deeper (envOfC "Machine.next_place" (defScope s_m_Machine_next_place) s.heap.objs.size f cdv))) :
    PSs (cxOf CX0 P w K mg base n_m_Machine_next_place "Machine.next_place" (defScope s_m_Machine_next_place) f cdv A outer s H E).nox (defBody s_m_Machine_next_place) (t_m_Machine_next_place K w ) :=
 (pss_one (ps_ret (pe_ix ix_tup (pe_ix ix_tup (pe_ix ix_list (pe_xfFrame_todo F (pe_ix ix_list (pe_ix ix_list (pe_xfMachine_hands F (pv 0) rfl) (pv 1) (fun _ _ => rfl)) (pe_un un_neg pe_int) (fun _ _ => rfl)) rfl) (pe_un un_neg pe_int) (fun _ _ => rfl)) pe_int (fun _ _ => rfl)) pe_int (fun _ _ => rfl))))
theorem sc_m_Machine_deed : FnScope n_m_Machine_deed ["self"] (defScope s_m_Machine_deed) := ⟨rfl, rfl, rfl, by decide +kernel, rfl, by decide +kernel, by decide +kernel⟩
theorem der_m_Machine_deed {P : Program} {w : World} {K : PySem.W.Frag} {mg : Str → Option Value} {base : Heap} {j : Nat}  (F : Fcts K) (G : Gx K mg) (c_Machine_do : Met P w K mg base j (He.ga K "Machine") "do" (sp_Machine_do K w) []) (c_Machine_settle : Met P w K mg base j (He.ga K "Machine") "settle" (sp_Machine_settle K w) []) (c_Machine_seek : Met P w K mg base j (He.ga K "Machine") "seek" (sp_Machine_seek K w) []) {f : Addr} {cdv : Value} {A : Around} {outer : List Env} {s : Shared} {H : Hp} {E : XK} (hr : Room j (A.deeper (envOfC "Machine.deed" (defScope s_m_Machine_deed) s.heap.objs.size f cdv))) :
    PSs (cxOf CX0 P w K mg base n_m_Machine_deed "Machine.deed" (defScope s_m_Machine_deed) f cdv A outer s H E).nox (defBody s_m_Machine_deed) (t_m_Machine_deed K w ) :=
 (pss_cons (ps_set (i := 1) sc_m_Machine_deed.nd rfl (Or.inl rfl) (pe_xfMachine_whose F (pv 0) rfl))
 (pss_cons (ps_set (i := 2) sc_m_Machine_deed.nd rfl (Or.inl rfl) (pe_ix ix_list (pe_ix ix_list (pe_xfMachine_hands F (pv 0) rfl) (pv 1) (fun _ _ => rfl)) (pe_un un_neg pe_int) (fun _ _ => rfl)))
 (pss_cons (ps_asg (pe_ix ix_tup (pe_bm0 PySem.F.plainAttrs_list PySem.F.slot_list_pop PySem.F.type_list_pop mt_pop (pe_xfFrame_todo F (pv 2) rfl)) pe_int (fun _ _ => rfl)) (pg_tup rfl (pgs_cons (pg_name (i := 3) sc_m_Machine_deed.nd rfl (Or.inl rfl)) (pgs_cons (pg_name (i := 4) sc_m_Machine_deed.nd rfl (Or.inl rfl)) (pgs_cons (pg_name (i := 5) sc_m_Machine_deed.nd rfl (Or.inl rfl)) pgs_nil)))))
 (pss_cons (ps_xsFrame_at F (pv 2) (pv 3) rfl)
 (pss_cons (ps_xsMachine_done F (pv 0) (pe_op op_add (pe_xfMachine_done F (pv 0) rfl) pe_int) rfl)
 (pss_cons (ps_expr (pe_mt c_Machine_do hr (by omega) (pv 0) (pa_cons (pv 1) (pa_cons (pv 2) (pa_cons (pv 4) (pa_cons (pv 5) pa_nil))))))
 (pss_cons (ps_expr (pe_mt c_Machine_settle hr (by omega) (pv 0) (pa_cons (pv 1) pa_nil)))
 (pss_cons (ps_xsMachine_whose F (pv 0) (pe_op op_mod (pe_op op_add (pv 1) pe_int) (pe_callB call_len_seq (by rfl) G.n_len PySem.boot_len (pa_cons (pe_xfMachine_hands F (pv 0) rfl) pa_nil))) rfl)
 (pss_one (ps_expr (pe_mt0 c_Machine_seek hr (by omega) (pv 0))))))))))))
theorem sc_m_Machine_do : FnScope n_m_Machine_do ["self", "me", "frame", "deed", "inner"] (defScope s_m_Machine_do) := ⟨rfl, rfl, rfl, by decide +kernel, rfl, by decide +kernel, by decide +kernel⟩
theorem der_m_Machine_do {P : Program} {w : World} {K : PySem.W.Frag} {mg : Str → Option Value} {base : Heap} {j : Nat}  (F : Fcts K) (G : Gx K mg) (c_Machine_call : Met P w K mg base j (He.ga K "Machine") "call" (sp_Machine_call K w) []) (c_worth : Cal P w K mg base j "worth" (sp_worth 8 K w) []) (c_Machine_back : Met P w K mg base j (He.ga K "Machine") "back" (sp_Machine_back K w) []) {f : Addr} {cdv : Value} {A : Around} {outer : List Env} {s : Shared} {H : Hp} {E : XK} (hr : Room j (A.deeper (envOfC "Machine.do" (defScope s_m_Machine_do) s.heap.objs.size f cdv))) :
    PSs (cxOf CX0 P w K mg base n_m_Machine_do "Machine.do" (defScope s_m_Machine_do) f cdv A outer s H E).nox (defBody s_m_Machine_do) (t_m_Machine_do K w ) :=
 (pss_cons (ps_set (i := 5) sc_m_Machine_do.nd rfl (Or.inl rfl) (pe_ix ix_tup (pv 3) pe_int (fun _ _ => rfl)))
 (pss_cons (ps_if (pt_cmpR op_eq (pv 5) pe_str (nomark _)) (pss_cons (ps_expr (pe_mt c_Machine_call hr (by omega) (pv 0) (pa_cons (pv 1) (pa_cons (pv 2) (pa_cons (pv 3) pa_nil)))))
 (pss_one ps_retN)) pss_nil)
 (pss_cons (ps_set (i := 6) sc_m_Machine_do.nd rfl (Or.inl rfl) (pe_c c_worth hr (by omega) (by rfl) (pa_cons (pe_ix ix_tup (pv 3) (pe_ifExp (pt_cmpR op_in_seq (pv 5) (pe_tup (pa_cons pe_str (pa_cons pe_str (pa_cons pe_str (pa_cons pe_str pa_nil))))) (by rfl)) pe_int pe_int) (fun _ _ => rfl)) (pa_cons (pe_xfFrame_names F (pv 2) rfl) (pa_cons (pe_xfMachine_held F (pv 0) rfl) pa_nil)))))
 (pss_one (ps_if (pt_cmpR op_eq (pv 5) pe_str (nomark _)) (pss_one (ps_asg (pv 6) (pg_sub (pe_xfFrame_names F (pv 2) rfl) (pe_ix ix_tup (pv 3) pe_int (fun _ _ => rfl)) set_list))) (pss_one (ps_if (pt_cmpR op_eq (pv 5) pe_str (nomark _)) (pss_one (ps_asg (pv 6) (pg_sub (pe_xfMachine_held F (pv 0) rfl) (pe_ix ix_tup (pv 3) pe_int (fun _ _ => rfl)) set_list))) (pss_one (ps_if (pt_cmpR op_eq (pv 5) pe_str (nomark _)) (pss_one (ps_expr (pe_bm PySem.F.plainAttrs_list PySem.F.slot_list_append PySem.F.type_list_append mt_append (pe_xfMachine_talk F (pv 0) rfl) (pa_cons (pe_tup (pa_cons (pv 1) (pa_cons (pv 6) pa_nil))) pa_nil)))) (pss_one (ps_if (pt_cmpR op_eq (pv 5) pe_str (nomark _)) (pss_one (ps_expr (pe_bm PySem.F.plainAttrs_list PySem.F.slot_list_append PySem.F.type_list_append mt_append (pe_xfFrame_todo F (pv 2) rfl) (pa_cons (pe_tup (pa_cons pe_str (pa_cons (pe_ix ix_list (pv 4) (pe_callTy call_int1 (by rfl) G.n_int (by decide +kernel) (pa_cons (pe_cmpR op_eq (pv 6) pe_int (nomark _)) pa_nil)) (fun _ _ => rfl)) pa_nil))) pa_nil)))) (pss_one (ps_if (pt_cmpR op_eq (pv 5) pe_str (nomark _)) (pss_one (ps_expr (pe_bm PySem.F.plainAttrs_list PySem.F.slot_list_append PySem.F.type_list_append mt_append (pe_xfFrame_todo F (pv 2) rfl) (pa_cons (pe_tup (pa_cons pe_str (pa_cons (pe_op op_mod (pv 6) (pe_gc rfl (G.c_TIMES))) (pa_cons (pe_ix ix_list (pv 4) pe_int (fun _ _ => rfl)) pa_nil)))) pa_nil)))) (pss_one (ps_expr (pe_mt c_Machine_back hr (by omega) (pv 0) (pa_cons (pe_ix ix_list (pe_xfMachine_hands F (pv 0) rfl) (pv 1) (fun _ _ => rfl)) (pa_cons (pv 6) pa_nil))))))))))))))))))
theorem sc_m_Machine_call : FnScope n_m_Machine_call ["self", "me", "frame", "deed"] (defScope s_m_Machine_call) := ⟨rfl, rfl, rfl, by decide +kernel, rfl, by decide +kernel, by decide +kernel⟩
theorem der_m_Machine_call {P : Program} {w : World} {K : PySem.W.Frag} {mg : Str → Option Value} {base : Heap} {j : Nat}  (F : Fcts K) (G : Gx K mg) (c_worth : Cal P w K mg base j "worth" (sp_worth 8 K w) []) (c_Machine_frame : Met P w K mg base j (He.ga K "Machine") "frame" (sp_Machine_frame K w) []) {f : Addr} {cdv : Value} {A : Around} {outer : List Env} {s : Shared} {H : Hp} {E : XK} (hr : Room j (A.deeper (envOfC "Machine.call" (defScope s_m_Machine_call) s.heap.objs.size f cdv))) :
    PSs (cxOf CX0 P w K mg base n_m_Machine_call "Machine.call" (defScope s_m_Machine_call) f cdv A outer s H E).nox (defBody s_m_Machine_call) (t_m_Machine_call K w ) :=
 (pss_cons (ps_setLc (i := 4) (own := [("part", 5)]) (g := (gName 5)) (tt := tYes) rfl sc_m_Machine_call.nd rfl rfl (sw_true rfl rfl rfl (by decide +kernel)) (pi_tup (pe_ix ix_tup (pv 3) pe_int (fun _ _ => rfl))) (blkOk_by (own := [("part", 5)]) (N := n_m_Machine_call) (sc := defScope s_m_Machine_call) (by decide +kernel)) (fun _ _ _ _ _ => (pg_name (i := 5) sc_m_Machine_call.nd rfl (Or.inl rfl))) (fun _ _ _ _ _ => pts_nil) (fun _ _ _ _ _ => (pe_c c_worth hr (by omega) (by rfl) (pa_cons (pv 5) (pa_cons (pe_xfFrame_names F (pv 2) rfl) (pa_cons (pe_xfMachine_held F (pv 0) rfl) pa_nil))))))
 (pss_one (ps_if (pt_cmpR op_eq (pe_callB call_len_seq (by rfl) G.n_len PySem.boot_len (pa_cons (pe_ix ix_list (pe_xfMachine_hands F (pv 0) rfl) (pv 1) (fun _ _ => rfl)) pa_nil)) (pe_gc rfl (G.c_MOST_FRAMES)) (nomark _)) (pss_one (ps_asg pe_int (pg_sub (pe_xfFrame_names F (pv 2) rfl) (pe_ix ix_tup (pv 3) pe_int (fun _ _ => rfl)) set_list))) (pss_cons (ps_expr (pe_bm PySem.F.plainAttrs_list PySem.F.slot_list_append PySem.F.type_list_append mt_append (pe_xfFrame_todo F (pv 2) rfl) (pa_cons (pe_tup (pa_cons pe_str (pa_cons (pe_ix ix_tup (pv 3) pe_int (fun _ _ => rfl)) pa_nil))) pa_nil)))
 (pss_one (ps_expr (pe_bm PySem.F.plainAttrs_list PySem.F.slot_list_append PySem.F.type_list_append mt_append (pe_ix ix_list (pe_xfMachine_hands F (pv 0) rfl) (pv 1) (fun _ _ => rfl)) (pa_cons (pe_mt c_Machine_frame hr (by omega) (pv 0) (pa_cons (pe_ix ix_tup (pv 3) pe_int (fun _ _ => rfl)) (pa_cons (pv 4) pa_nil))) pa_nil))))))))
theorem sc_f_need_count : FnScope n_f_need_count ["many"] (defScope s_f_need_count) := ⟨rfl, rfl, rfl, by decide +kernel, rfl, by decide +kernel, by decide +kernel⟩
theorem der_f_need_count {P : Program} {w : World} {K : PySem.W.Frag} {mg : Str → Option Value} {base : Heap} {j : Nat}  (F : Fcts K) (G : Gx K mg)  {f : Addr} {cdv : Value} {A : Around} {outer : List Env} {s : Shared} {H : Hp} {E : XK} (hr : Room j (A.deeper (envOfC "need_count" (defScope s_f_need_count) s.heap.objs.size f cdv))) :
    PSs (cxOf CX0 P w K mg base n_f_need_count "need_count" (defScope s_f_need_count) f cdv A outer s H E).nox (defBody s_f_need_count) (t_f_need_count K w ) :=
 (pss_one (ps_if (pt_not (pt_chain op_le op_le pe_int (pv 0) (pe_gc rfl (G.c_MOST_DEEDS)))) (pss_one ps_never) pss_nil))
theorem sc_f_plain : FnScope n_f_plain ["program", "many"] (defScope s_f_plain) := ⟨rfl, rfl, rfl, by decide +kernel, rfl, by decide +kernel, by decide +kernel⟩
theorem der_f_plain {P : Program} {w : World} {K : PySem.W.Frag} {mg : Str → Option Value} {base : Heap} {j : Nat}  (F : Fcts K) (G : Gx K mg) (c_need_program : Cal P w K mg base j "need_program" (sp_need_program K w) []) (c_need_count : Cal P w K mg base j "need_count" (sp_need_count K w) []) {jm_Machine : Nat} (hj_Machine : jm_Machine + 1 ≤ j) (c_Machine : Mak P w K mg base jm_Machine "Machine" (He.ga K "Machine") (sp_Machine_init K w) []) (c_Machine_is_over : Met P w K mg base j (He.ga K "Machine") "is_over" (sp_Machine_is_over K w) []) (c_Machine_deed : Met P w K mg base j (He.ga K "Machine") "deed" (sp_Machine_deed K w) []) {f : Addr} {cdv : Value} {A : Around} {outer : List Env} {s : Shared} {H : Hp} {E : XK} (hr : Room j (A.deeper (envOfC "plain" (defScope s_f_plain) s.heap.objs.size f cdv))) :
    PSs (cxOf CX0 P w K mg base n_f_plain "plain" (defScope s_f_plain) f cdv A outer s H E).nox (defBody s_f_plain) (t_f_plain K w ) :=
 (pss_cons (ps_expr (pe_c c_need_program hr (by omega) (by rfl) (pa_cons (pv 0) pa_nil)))
 (pss_cons (ps_expr (pe_c c_need_count hr (by omega) (by rfl) (pa_cons (pv 1) pa_nil)))
 (pss_cons (ps_set (i := 2) sc_f_plain.nd rfl (Or.inl rfl) (pe_mk c_Machine hr (by omega) (by rfl) (pa_cons (pv 0) pa_nil)))
 (pss_cons (ps_while PassesOwn.never (PW.pt (pw_and (pt_not (pt_val (pe_mt0 c_Machine_is_over hr (by omega) (pv 2)))) (pw_and1 (pt_cmpR op_lt (pe_xfMachine_done F (pv 2) rfl) (pv 1) (nomark _))))) (pss_one (ps_expr (pe_mt0 c_Machine_deed hr (by omega) (pv 2)))))
 (pss_one (ps_ret (pe_tup (pa_cons (pe_xfMachine_talk F (pv 2) rfl) (pa_cons (pe_xfMachine_held F (pv 2) rfl) (pa_cons (pe_mt0 c_Machine_is_over hr (by omega) (pv 2)) (pa_cons (pe_xfMachine_done F (pv 2) rfl) pa_nil)))))))))))
theorem sc_m_Watched_init : FnScope n_m_Watched_init ["self", "program"] (defScope s_m_Watched_init) := ⟨rfl, rfl, rfl, by decide +kernel, rfl, by decide +kernel, by decide +kernel⟩
theorem der_m_Watched_init {P : Program} {w : World} {K : PySem.W.Frag} {mg : Str → Option Value} {base : Heap} {j : Nat}  (F : Fcts K) (G : Gx K mg) (c_need_program : Cal P w K mg base j "need_program" (sp_need_program K w) []) (c_numbered : Cal P w K mg base j "numbered" (sp_numbered K w) []) {jm_Machine : Nat} (hj_Machine : jm_Machine + 1 ≤ j) (c_Machine : Mak P w K mg base jm_Machine "Machine" (He.ga K "Machine") (sp_Machine_init K w) []) {f : Addr} {cdv : Value} {A : Around} {outer : List Env} {s : Shared} {H : Hp} {E : XK} (hr : Room j (A.deeper (envOfC "Watched.__init__" (defScope s_m_Watched_init) s.heap.objs.size f cdv))) :
    PSs (cxOf CX0 P w K mg base n_m_Watched_init "Watched.__init__" (defScope s_m_Watched_init) f cdv A outer s H E).nox (defBody s_m_Watched_init) (t_m_Watched_init K w ) :=
 (pss_cons (ps_expr (pe_c c_need_program hr (by omega) (by rfl) (pa_cons (pv 1) pa_nil)))
 (pss_cons (ps_fld (pv 0) (pv 1) rfl)
 (pss_cons (ps_fld (pv 0) (pe_ix ix_tup (pe_c c_numbered hr (by omega) (by rfl) (pa_cons (pv 1) pa_nil)) pe_int (fun _ _ => rfl)) rfl)
 (pss_cons (ps_fld (pv 0) (pe_mk c_Machine hr (by omega) (by rfl) (pa_cons (pv 1) pa_nil)) rfl)
 (pss_cons (ps_fld (pv 0) pe_dnewK rfl)
 (pss_cons (ps_fld (pv 0) pe_int rfl)
 (pss_cons (ps_fld (pv 0) pe_non rfl)
 (pss_cons (ps_fld (pv 0) pe_int rfl)
 (pss_cons (ps_fld (pv 0) pe_bl rfl)
 (pss_one (ps_fld (pv 0) pe_bl rfl)))))))))))
theorem sc_m_Watched_need_hand : FnScope n_m_Watched_need_hand ["self", "hand"] (defScope s_m_Watched_need_hand) := ⟨rfl, rfl, rfl, by decide +kernel, rfl, by decide +kernel, by decide +kernel⟩
theorem der_m_Watched_need_hand {P : Program} {w : World} {K : PySem.W.Frag} {mg : Str → Option Value} {base : Heap} {j : Nat}  (F : Fcts K) (G : Gx K mg) (c_is_number : Cal P w K mg base j "is_number" (sp_is_number K w) []) {f : Addr} {cdv : Value} {A : Around} {outer : List Env} {s : Shared} {H : Hp} {E : XK} (hr : Room j (A.deeper (envOfC "Watched.need_hand" (defScope s_m_Watched_need_hand) s.heap.objs.size f cdv))) :
    PSs (cxOf CX0 P w K mg base n_m_Watched_need_hand "Watched.need_hand" (defScope s_m_Watched_need_hand) f cdv A outer s H E).nox (defBody s_m_Watched_need_hand) (t_m_Watched_need_hand K w ) :=
 (pss_one (ps_if (PW.pt (pw_or (pt_not (pt_val (pe_c c_is_number hr (by omega) (by rfl) (pa_cons (pv 1) pa_nil)))) (pw_or1 (pt_not (pt_chain op_le op_lt pe_int (pv 1) (pe_callB call_len_seq (by rfl) G.n_len PySem.boot_len (pa_cons (pe_xfMachine_hands F (pe_xfWatched_machine F (pv 0) rfl) rfl) pa_nil))))))) (pss_one ps_never) pss_nil))
theorem sc_m_Watched_stop : FnScope n_m_Watched_stop ["self", "place", "hand", "wish"] (defScope s_m_Watched_stop) := ⟨rfl, rfl, rfl, by decide +kernel, rfl, by decide +kernel, by decide +kernel⟩
theorem der_m_Watched_stop {P : Program} {w : World} {K : PySem.W.Frag} {mg : Str → Option Value} {base : Heap} {j : Nat}  (F : Fcts K) (G : Gx K mg) (c_Watched_need_hand : Met P w K mg base j (He.ga K "Watched") "need_hand" (sp_Watched_need_hand K w) []) (c_is_wish : Cal P w K mg base j "is_wish" (sp_is_wish K w) []) {f : Addr} {cdv : Value} {A : Around} {outer : List Env} {s : Shared} {H : Hp} {E : XK} (hr : Room j (A.deeper (envOfC "Watched.stop" (defScope s_m_Watched_stop) s.heap.objs.size f cdv))) :
    PSs (cxOf CX0 P w K mg base n_m_Watched_stop "Watched.stop" (defScope s_m_Watched_stop) f cdv A outer s H E).nox (defBody s_m_Watched_stop) (t_m_Watched_stop K w ) :=
 (pss_cons (ps_if (pt_not (pt_chain op_le op_lt pe_int (pv 1) (pe_callB call_len_seq (by rfl) G.n_len PySem.boot_len (pa_cons (pe_xfWatched_funs F (pv 0) rfl) pa_nil)))) (pss_one ps_never) pss_nil)
 (pss_cons (ps_if (pt_cmpR op_notN (pv 2) pe_non (nomark _)) (pss_one (ps_expr (pe_mt c_Watched_need_hand hr (by omega) (pv 0) (pa_cons (pv 2) pa_nil)))) pss_nil)
 (pss_cons (ps_if (PW.pt (pw_and (pt_cmpR op_notN (pv 3) pe_non (nomark _)) (pw_and1 (pt_not (pt_val (pe_c c_is_wish hr (by omega) (by rfl) (pa_cons (pv 3) (pa_cons (pe_xfWatched_program F (pv 0) rfl) (pa_cons (pe_ix ix_list (pe_xfWatched_funs F (pv 0) rfl) (pv 1) (fun _ _ => rfl)) pa_nil))))))))) (pss_one ps_never) pss_nil)
 (pss_cons (ps_if (pt_cmpR op_eq (pe_callB call_lenD (by rfl) G.n_len PySem.boot_len (pa_cons (pe_xfWatched_stops F (pv 0) rfl) pa_nil)) (pe_gc rfl (G.c_MOST_STOPS)) (nomark _)) (pss_one ps_never) pss_nil)
 (pss_cons (ps_dput (hu_of hr) (pe_xfWatched_stops F (pv 0) rfl) (pe_xfWatched_made F (pv 0) rfl) (pe_tup (pa_cons (pv 1) (pa_cons (pv 2) (pa_cons (pv 3) pa_nil)))) rfl)
 (pss_cons (ps_xsWatched_made F (pv 0) (pe_op op_add (pe_xfWatched_made F (pv 0) rfl) pe_int) rfl)
 (pss_one (ps_ret (pe_op op_sub (pe_xfWatched_made F (pv 0) rfl) pe_int)))))))))
theorem sc_m_Watched_met : FnScope n_m_Watched_met ["self"] (defScope s_m_Watched_met) := ⟨rfl, rfl, rfl, by decide +kernel, rfl, by decide +kernel, by decide +kernel⟩
theorem der_m_Watched_met {P : Program} {w : World} {K : PySem.W.Frag} {mg : Str → Option Value} {base : Heap} {j : Nat}  (F : Fcts K) (G : Gx K mg) (c_Machine_next_place : Met P w K mg base j (He.ga K "Machine") "next_place" (sp_Machine_next_place K w) []) (c_worth : Cal P w K mg base j "worth" (sp_worth 8 K w) []) {f : Addr} {cdv : Value} {A : Around} {outer : List Env} {s : Shared} {H : Hp} {E : XK} (hr : Room j (A.deeper (envOfC "Watched.met" (defScope s_m_Watched_met) s.heap.objs.size f cdv))) :
    PSs (cxOf CX0 P w K mg base n_m_Watched_met "Watched.met" (defScope s_m_Watched_met) f cdv A outer s H E).nox (defBody s_m_Watched_met) (t_m_Watched_met K w ) :=
 (pss_cons (ps_set (i := 1) sc_m_Watched_met.nd rfl (Or.inl rfl) (pe_xfWatched_machine F (pv 0) rfl))
 (pss_cons (ps_set (i := 2) sc_m_Watched_met.nd rfl (Or.inl rfl) (pe_xfMachine_whose F (pv 1) rfl))
 (pss_cons (ps_set (i := 3) sc_m_Watched_met.nd rfl (Or.inl rfl) (pe_mt c_Machine_next_place hr (by omega) (pv 1) (pa_cons (pv 2) pa_nil)))
 (pss_cons (ps_for PassesOwn.never rfl (pi_list (pe_callB (call_sortedDI rfl) (by rfl) G.n_sorted (by decide +kernel) (pa_cons (pe_xfWatched_stops F (pv 0) rfl) pa_nil))) (pg_name (i := 4) sc_m_Watched_met.nd rfl (Or.inl rfl)) (pss_cons (ps_asg (pe_dget (hu_of hr) (pe_xfWatched_stops F (pv 0) rfl) (pv 4) (fun _ _ => rfl)) (pg_tup rfl (pgs_cons (pg_name (i := 5) sc_m_Watched_met.nd rfl (Or.inl rfl)) (pgs_cons (pg_name (i := 6) sc_m_Watched_met.nd rfl (Or.inl rfl)) (pgs_cons (pg_name (i := 7) sc_m_Watched_met.nd rfl (Or.inl rfl)) pgs_nil)))))
 (pss_one (ps_if (PW.pt (pw_and (pt_cmpR op_eq (pv 5) (pv 3) (nomark _)) (pw_and1 (pt_cmpR op_in_seq (pv 6) (pe_tup (pa_cons pe_non (pa_cons (pv 2) pa_nil))) (by rfl))))) (pss_one (ps_if (PW.pt (pw_or (pt_cmpR op_isN (pv 7) pe_non (nomark _)) (pw_or1 (pt_cmpR op_ne (pe_c c_worth hr (by omega) (by rfl) (pa_cons (pv 7) (pa_cons (pe_xfFrame_names F (pe_ix ix_list (pe_ix ix_list (pe_xfMachine_hands F (pv 1) rfl) (pv 2) (fun _ _ => rfl)) (pe_un un_neg pe_int) (fun _ _ => rfl)) rfl) (pa_cons (pe_xfMachine_held F (pv 1) rfl) pa_nil)))) pe_int (nomark _))))) (pss_one (ps_ret (pv 4))) pss_nil)) pss_nil))))
 (pss_one (ps_ret pe_non))))))
theorem sc_m_Watched_is_reached : FnScope n_m_Watched_is_reached ["self"] (defScope s_m_Watched_is_reached) := ⟨rfl, rfl, rfl, by decide +kernel, rfl, by decide +kernel, by decide +kernel⟩
theorem der_m_Watched_is_reached {P : Program} {w : World} {K : PySem.W.Frag} {mg : Str → Option Value} {base : Heap} {j : Nat}  (F : Fcts K) (G : Gx K mg)  {f : Addr} {cdv : Value} {A : Around} {outer : List Env} {s : Shared} {H : Hp} {E : XK} (hr : Room j (A.deeper (envOfC "Watched.is_reached" (defScope s_m_Watched_is_reached) s.heap.objs.size f cdv))) :
    PSs (cxOf CX0 P w K mg base n_m_Watched_is_reached "Watched.is_reached" (defScope s_m_Watched_is_reached) f cdv A outer s H E).nox (defBody s_m_Watched_is_reached) (t_m_Watched_is_reached K w ) :=
 (pss_cons (ps_asg (pe_xfWatched_goal F (pv 0) rfl) (pg_tup rfl (pgs_cons (pg_name (i := 1) sc_m_Watched_is_reached.nd rfl (Or.inl rfl)) (pgs_cons (pg_name (i := 2) sc_m_Watched_is_reached.nd rfl (Or.inl rfl)) (pgs_cons (pg_name (i := 3) sc_m_Watched_is_reached.nd rfl (Or.inl rfl)) pgs_nil)))))
 (pss_cons (ps_if (PW.pt (pw_or (pt_cmpR op_ne (pe_xfMachine_whose F (pe_xfWatched_machine F (pv 0) rfl) rfl) (pv 1) (nomark _)) (pw_or1 (pt_not (pt_val (pe_xfWatched_moved F (pv 0) rfl)))))) (pss_one (ps_ret pe_bl)) pss_nil)
 (pss_cons (ps_set (i := 4) sc_m_Watched_is_reached.nd rfl (Or.inl rfl) (pe_callB call_len_seq (by rfl) G.n_len PySem.boot_len (pa_cons (pe_ix ix_list (pe_xfMachine_hands F (pe_xfWatched_machine F (pv 0) rfl) rfl) (pv 1) (fun _ _ => rfl)) pa_nil)))
 (pss_one (ps_ret (pe_or (pe_cmpR op_eq (pv 2) pe_str (nomark _)) (pe_or (pe_and (pe_cmpR op_eq (pv 2) pe_str (nomark _)) (pe_one (pe_cmpR op_le (pv 4) (pv 3) (nomark _)))) (pe_one (pe_cmpR op_lt (pv 4) (pv 3) (nomark _))))))))))
theorem sc_m_Watched_event : FnScope n_m_Watched_event ["self"] (defScope s_m_Watched_event) := ⟨rfl, rfl, rfl, by decide +kernel, rfl, by decide +kernel, by decide +kernel⟩
theorem der_m_Watched_event {P : Program} {w : World} {K : PySem.W.Frag} {mg : Str → Option Value} {base : Heap} {j : Nat}  (F : Fcts K) (G : Gx K mg) (c_Machine_is_over : Met P w K mg base j (He.ga K "Machine") "is_over" (sp_Machine_is_over K w) []) (c_Watched_met : Met P w K mg base j (He.ga K "Watched") "met" (sp_Watched_met K w) []) (c_Machine_next_place : Met P w K mg base j (He.ga K "Machine") "next_place" (sp_Machine_next_place K w) []) (c_Watched_is_reached : Met P w K mg base j (He.ga K "Watched") "is_reached" (sp_Watched_is_reached K w) []) {f : Addr} {cdv : Value} {A : Around} {outer : List Env} {s : Shared} {H : Hp} {E : XK} (hr : Room j (A.deeper (envOfC "Watched.event" (defScope s_m_Watched_event) s.heap.objs.size f cdv))) :
    PSs (cxOf CX0 P w K mg base n_m_Watched_event "Watched.event" (defScope s_m_Watched_event) f cdv A outer s H E).nox (defBody s_m_Watched_event) (t_m_Watched_event K w ) :=
 (pss_cons (ps_set (i := 1) sc_m_Watched_event.nd rfl (Or.inl rfl) (pe_xfWatched_machine F (pv 0) rfl))
 (pss_cons (ps_if (pt_val (pe_mt0 c_Machine_is_over hr (by omega) (pv 1))) (pss_one (ps_ret (pe_tup (pa_cons pe_str pa_nil)))) pss_nil)
 (pss_cons (ps_if (PW.pt (pw_and (pt_cmpR op_notN (pe_xfWatched_goal F (pv 0) rfl) pe_non (nomark _)) (pw_and1 (pt_cmpR (op_eqNil (hu_of hr)) (pe_ix ix_list (pe_xfMachine_hands F (pv 1) rfl) (pe_ix ix_tup (pe_xfWatched_goal F (pv 0) rfl) pe_int (fun _ _ => rfl)) (fun _ _ => rfl)) (pe_lst pa_nil) (nomark _))))) (pss_one (ps_ret (pe_tup (pa_cons pe_str (pa_cons (pe_ix ix_tup (pe_xfWatched_goal F (pv 0) rfl) pe_int (fun _ _ => rfl)) pa_nil))))) pss_nil)
 (pss_cons (ps_if (pt_not (pt_val (pe_xfWatched_first F (pv 0) rfl))) (pss_cons (ps_set (i := 2) sc_m_Watched_event.nd rfl (Or.inl rfl) (pe_mt0 c_Watched_met hr (by omega) (pv 0)))
 (pss_cons (ps_if (pt_cmpR op_notN (pv 2) pe_non (nomark _)) (pss_one (ps_ret (pe_tup (pa_cons pe_str (pa_cons (pe_xfMachine_whose F (pv 1) rfl) (pa_cons (pe_mt c_Machine_next_place hr (by omega) (pv 1) (pa_cons (pe_xfMachine_whose F (pv 1) rfl) pa_nil)) (pa_cons (pv 2) pa_nil))))))) pss_nil)
 (pss_one (ps_if (PW.pt (pw_and (pt_cmpR op_notN (pe_xfWatched_goal F (pv 0) rfl) pe_non (nomark _)) (pw_and1 (pt_val (pe_mt0 c_Watched_is_reached hr (by omega) (pv 0)))))) (pss_one (ps_ret (pe_tup (pa_cons pe_str (pa_cons (pe_xfMachine_whose F (pv 1) rfl) (pa_cons (pe_mt c_Machine_next_place hr (by omega) (pv 1) (pa_cons (pe_xfMachine_whose F (pv 1) rfl) pa_nil)) pa_nil)))))) pss_nil)))) pss_nil)
 (pss_cons (ps_if (pt_cmpR op_eq (pe_xfWatched_left F (pv 0) rfl) pe_int (nomark _)) (pss_one (ps_ret (pe_tup (pa_cons pe_str (pa_cons (pe_xfMachine_whose F (pv 1) rfl) (pa_cons (pe_mt c_Machine_next_place hr (by omega) (pv 1) (pa_cons (pe_xfMachine_whose F (pv 1) rfl) pa_nil)) pa_nil)))))) pss_nil)
 (pss_one (ps_ret pe_non)))))))
theorem sc_m_Watched_begin : FnScope n_m_Watched_begin ["self", "goal", "many"] (defScope s_m_Watched_begin) := ⟨rfl, rfl, rfl, by decide +kernel, rfl, by decide +kernel, by decide +kernel⟩
theorem der_m_Watched_begin {P : Program} {w : World} {K : PySem.W.Frag} {mg : Str → Option Value} {base : Heap} {j : Nat}  (F : Fcts K) (G : Gx K mg)  {f : Addr} {cdv : Value} {A : Around} {outer : List Env} {s : Shared} {H : Hp} {E : XK} (hr : Room j (A.deeper (envOfC "Watched.begin" (defScope s_m_Watched_begin) s.heap.objs.size f cdv))) :
    PSs (cxOf CX0 P w K mg base n_m_Watched_begin "Watched.begin" (defScope s_m_Watched_begin) f cdv A outer s H E).nox (defBody s_m_Watched_begin) (t_m_Watched_begin K w ) :=
 (pss_cons (ps_xsWatched_goal F (pv 0) (pv 1) rfl)
 (pss_cons (ps_xsWatched_left F (pv 0) (pv 2) rfl)
 (pss_cons (ps_xsWatched_first F (pv 0) pe_bl rfl)
 (pss_one (ps_xsWatched_moved F (pv 0) pe_bl rfl)))))
theorem sc_m_Watched_on : FnScope n_m_Watched_on ["self"] (defScope s_m_Watched_on) := ⟨rfl, rfl, rfl, by decide +kernel, rfl, by decide +kernel, by decide +kernel⟩
theorem der_m_Watched_on {P : Program} {w : World} {K : PySem.W.Frag} {mg : Str → Option Value} {base : Heap} {j : Nat}  (F : Fcts K) (G : Gx K mg) (c_Watched_event : Met P w K mg base j (He.ga K "Watched") "event" (sp_Watched_event K w) []) (c_Machine_deed : Met P w K mg base j (He.ga K "Machine") "deed" (sp_Machine_deed K w) []) {f : Addr} {cdv : Value} {A : Around} {outer : List Env} {s : Shared} {H : Hp} {E : XK} (hr : Room j (A.deeper (envOfC "Watched.on" (defScope s_m_Watched_on) s.heap.objs.size f cdv))) :
    PSs (cxOf CX0 P w K mg base n_m_Watched_on "Watched.on" (defScope s_m_Watched_on) f cdv A outer s H E).nox (defBody s_m_Watched_on) (t_m_Watched_on K w ) :=
 (pss_cons (ps_set (i := 1) sc_m_Watched_on.nd rfl (Or.inl rfl) (pe_mt0 c_Watched_event hr (by omega) (pv 0)))
 (pss_cons (ps_if (pt_cmpR op_isN (pv 1) pe_non (nomark _)) (pss_cons (ps_xsWatched_first F (pv 0) pe_bl rfl)
 (pss_cons (ps_xsWatched_moved F (pv 0) (pe_or (pe_xfWatched_moved F (pv 0) rfl) (pe_one (pe_and (pe_cmpR op_notN (pe_xfWatched_goal F (pv 0) rfl) pe_non (nomark _)) (pe_one (pe_cmpR op_eq (pe_xfMachine_whose F (pe_xfWatched_machine F (pv 0) rfl) rfl) (pe_ix ix_tup (pe_xfWatched_goal F (pv 0) rfl) pe_int (fun _ _ => rfl)) (nomark _)))))) rfl)
 (pss_cons (ps_xsWatched_left F (pv 0) (pe_op op_sub (pe_xfWatched_left F (pv 0) rfl) pe_int) rfl)
 (pss_one (ps_expr (pe_mt0 c_Machine_deed hr (by omega) (pe_xfWatched_machine F (pv 0) rfl))))))) pss_nil)
 (pss_one (ps_ret (pv 1)))))
theorem sc_m_Watched_finish : FnScope n_m_Watched_finish ["self"] (defScope s_m_Watched_finish) := ⟨rfl, rfl, rfl, by decide +kernel, rfl, by decide +kernel, by decide +kernel⟩
theorem der_m_Watched_finish {P : Program} {w : World} {K : PySem.W.Frag} {mg : Str → Option Value} {base : Heap} {j : Nat}  (F : Fcts K) (G : Gx K mg) (c_Watched_on : Met P w K mg base j (He.ga K "Watched") "on" (sp_Watched_on K w) []) {f : Addr} {cdv : Value} {A : Around} {outer : List Env} {s : Shared} {H : Hp} {E : XK} (hr : Room j (A.deeper (envOfC "Watched.finish" (defScope s_m_Watched_finish) s.heap.objs.size f cdv))) :
    PSs (cxOf CX0 P w K mg base n_m_Watched_finish "Watched.finish" (defScope s_m_Watched_finish) f cdv A outer s H E).nox (defBody s_m_Watched_finish) (t_m_Watched_finish K w ) :=
 (pss_cons (ps_set (i := 1) sc_m_Watched_finish.nd rfl (Or.inl rfl) pe_non)
 (pss_cons (ps_while PassesOwn.never (pt_cmpR op_isN (pv 1) pe_non (nomark _)) (pss_one (ps_set (i := 1) sc_m_Watched_finish.nd rfl (Or.inl rfl) (pe_mt0 c_Watched_on hr (by omega) (pv 0)))))
 (pss_one (ps_ret (pv 1)))))
theorem sc_m_Watched_go : FnScope n_m_Watched_go ["self", "many"] (defScope s_m_Watched_go) := ⟨rfl, rfl, rfl, by decide +kernel, rfl, by decide +kernel, by decide +kernel⟩
theorem der_m_Watched_go {P : Program} {w : World} {K : PySem.W.Frag} {mg : Str → Option Value} {base : Heap} {j : Nat}  (F : Fcts K) (G : Gx K mg) (c_Watched_need_go : Met P w K mg base j (He.ga K "Watched") "need_go" (sp_Watched_need_go K w) []) (c_Watched_begin : Met P w K mg base j (He.ga K "Watched") "begin" (sp_Watched_begin K w) []) (c_Watched_finish : Met P w K mg base j (He.ga K "Watched") "finish" (sp_Watched_finish K w) []) {f : Addr} {cdv : Value} {A : Around} {outer : List Env} {s : Shared} {H : Hp} {E : XK} (hr : Room j (A.deeper (envOfC "Watched.go" (defScope s_m_Watched_go) s.heap.objs.size f cdv))) :
    PSs (cxOf CX0 P w K mg base n_m_Watched_go "Watched.go" (defScope s_m_Watched_go) f cdv A outer s H E).nox (defBody s_m_Watched_go) (t_m_Watched_go K w ) :=
 (pss_cons (ps_expr (pe_mt c_Watched_need_go hr (by omega) (pv 0) (pa_cons (pv 1) pa_nil)))
 (pss_cons (ps_expr (pe_mt c_Watched_begin hr (by omega) (pv 0) (pa_cons pe_non (pa_cons (pv 1) pa_nil))))
 (pss_one (ps_ret (pe_mt0 c_Watched_finish hr (by omega) (pv 0))))))
theorem sc_m_Watched_need_go : FnScope n_m_Watched_need_go ["self", "many"] (defScope s_m_Watched_need_go) := ⟨rfl, rfl, rfl, by decide +kernel, rfl, by decide +kernel, by decide +kernel⟩
theorem der_m_Watched_need_go {P : Program} {w : World} {K : PySem.W.Frag} {mg : Str → Option Value} {base : Heap} {j : Nat}  (F : Fcts K) (G : Gx K mg) (c_need_count : Cal P w K mg base j "need_count" (sp_need_count K w) []) (c_Machine_is_over : Met P w K mg base j (He.ga K "Machine") "is_over" (sp_Machine_is_over K w) []) {f : Addr} {cdv : Value} {A : Around} {outer : List Env} {s : Shared} {H : Hp} {E : XK} (hr : Room j (A.deeper (envOfC "Watched.need_go" (defScope s_m_Watched_need_go) s.heap.objs.size f cdv))) :
    PSs (cxOf CX0 P w K mg base n_m_Watched_need_go "Watched.need_go" (defScope s_m_Watched_need_go) f cdv A outer s H E).nox (defBody s_m_Watched_need_go) (t_m_Watched_need_go K w ) :=
 (pss_cons (ps_expr (pe_c c_need_count hr (by omega) (by rfl) (pa_cons (pv 1) pa_nil)))
 (pss_one (ps_if (pt_val (pe_mt0 c_Machine_is_over hr (by omega) (pe_xfWatched_machine F (pv 0) rfl))) (pss_one ps_never) pss_nil)))
theorem sc_m_Watched_need_step : FnScope n_m_Watched_need_step ["self", "hand", "way", "many"] (defScope s_m_Watched_need_step) := ⟨rfl, rfl, rfl, by decide +kernel, rfl, by decide +kernel, by decide +kernel⟩
theorem der_m_Watched_need_step {P : Program} {w : World} {K : PySem.W.Frag} {mg : Str → Option Value} {base : Heap} {j : Nat}  (F : Fcts K) (G : Gx K mg) (c_Watched_need_hand : Met P w K mg base j (He.ga K "Watched") "need_hand" (sp_Watched_need_hand K w) []) (c_need_count : Cal P w K mg base j "need_count" (sp_need_count K w) []) {f : Addr} {cdv : Value} {A : Around} {outer : List Env} {s : Shared} {H : Hp} {E : XK} (hr : Room j (A.deeper (envOfC "Watched.need_step" (defScope s_m_Watched_need_step) s.heap.objs.size f cdv))) :
    PSs (cxOf CX0 P w K mg base n_m_Watched_need_step "Watched.need_step" (defScope s_m_Watched_need_step) f cdv A outer s H E).nox (defBody s_m_Watched_need_step) (t_m_Watched_need_step K w ) :=
 (pss_cons (ps_expr (pe_mt c_Watched_need_hand hr (by omega) (pv 0) (pa_cons (pv 1) pa_nil)))
 (pss_cons (ps_if (pt_cmpR op_notIn_seq (pv 2) (pe_gc rfl (G.c_WAYS)) (by rfl)) (pss_one ps_never) pss_nil)
 (pss_cons (ps_expr (pe_c c_need_count hr (by omega) (by rfl) (pa_cons (pv 3) pa_nil)))
 (pss_one (ps_if (pt_cmpR (op_eqNil (hu_of hr)) (pe_ix ix_list (pe_xfMachine_hands F (pe_xfWatched_machine F (pv 0) rfl) rfl) (pv 1) (fun _ _ => rfl)) (pe_lst pa_nil) (nomark _)) (pss_one ps_never) pss_nil)))))
theorem sc_m_Watched_step : FnScope n_m_Watched_step ["self", "hand", "way", "many"] (defScope s_m_Watched_step) := ⟨rfl, rfl, rfl, by decide +kernel, rfl, by decide +kernel, by decide +kernel⟩
theorem der_m_Watched_step {P : Program} {w : World} {K : PySem.W.Frag} {mg : Str → Option Value} {base : Heap} {j : Nat}  (F : Fcts K) (G : Gx K mg) (c_Watched_need_step : Met P w K mg base j (He.ga K "Watched") "need_step" (sp_Watched_need_step K w) []) (c_Watched_begin : Met P w K mg base j (He.ga K "Watched") "begin" (sp_Watched_begin K w) []) (c_Watched_finish : Met P w K mg base j (He.ga K "Watched") "finish" (sp_Watched_finish K w) []) {f : Addr} {cdv : Value} {A : Around} {outer : List Env} {s : Shared} {H : Hp} {E : XK} (hr : Room j (A.deeper (envOfC "Watched.step" (defScope s_m_Watched_step) s.heap.objs.size f cdv))) :
    PSs (cxOf CX0 P w K mg base n_m_Watched_step "Watched.step" (defScope s_m_Watched_step) f cdv A outer s H E).nox (defBody s_m_Watched_step) (t_m_Watched_step K w ) :=
 (pss_cons (ps_expr (pe_mt c_Watched_need_step hr (by omega) (pv 0) (pa_cons (pv 1) (pa_cons (pv 2) (pa_cons (pv 3) pa_nil)))))
 (pss_cons (ps_expr (pe_mt c_Watched_begin hr (by omega) (pv 0) (pa_cons (pe_tup (pa_cons (pv 1) (pa_cons (pv 2) (pa_cons (pe_callB call_len_seq (by rfl) G.n_len PySem.boot_len (pa_cons (pe_ix ix_list (pe_xfMachine_hands F (pe_xfWatched_machine F (pv 0) rfl) rfl) (pv 1) (fun _ _ => rfl)) pa_nil)) pa_nil)))) (pa_cons (pv 3) pa_nil))))
 (pss_one (ps_ret (pe_mt0 c_Watched_finish hr (by omega) (pv 0))))))
theorem sc_m_Watched_stack : FnScope n_m_Watched_stack ["self", "hand"] (defScope s_m_Watched_stack) := ⟨rfl, rfl, rfl, by decide +kernel, rfl, by decide +kernel, by decide +kernel⟩
theorem der_m_Watched_stack {P : Program} {w : World} {K : PySem.W.Frag} {mg : Str → Option Value} {base : Heap} {j : Nat}  (F : Fcts K) (G : Gx K mg) (c_Watched_need_hand : Met P w K mg base j (He.ga K "Watched") "need_hand" (sp_Watched_need_hand K w) []) (c_Machine_next_place : Met P w K mg base j (He.ga K "Machine") "next_place" (sp_Machine_next_place K w) []) {f : Addr} {cdv : Value} {A : Around} {outer : List Env} {s : Shared} {H : Hp} {E : XK} (hr : Room j (A.deeper (envOfC "Watched.stack" (defScope s_m_Watched_stack) s.heap.objs.size f cdv))) :
    PSs (cxOf CX0 P w K mg base n_m_Watched_stack "Watched.stack" (defScope s_m_Watched_stack) f cdv A outer s H E).nox (defBody s_m_Watched_stack) (t_m_Watched_stack K w ) :=
 (pss_cons (ps_expr (pe_mt c_Watched_need_hand hr (by omega) (pv 0) (pa_cons (pv 1) pa_nil)))
 (pss_cons (ps_set (i := 2) sc_m_Watched_stack.nd rfl (Or.inl rfl) (pe_ix ix_list (pe_xfMachine_hands F (pe_xfWatched_machine F (pv 0) rfl) rfl) (pv 1) (fun _ _ => rfl)))
 (pss_cons (ps_setLc (i := 3) (own := [("frame", 4)]) (g := (gName 4)) (tt := tYes) rfl sc_m_Watched_stack.nd rfl rfl (sw_true rfl rfl rfl (by decide +kernel)) (pi_list (pe_slice sl_list (pv 2) po_none (po_some (pe_un un_neg pe_int)))) (blkOk_by (own := [("frame", 4)]) (N := n_m_Watched_stack) (sc := defScope s_m_Watched_stack) (by decide +kernel)) (fun _ _ _ _ _ => (pg_name (i := 4) sc_m_Watched_stack.nd rfl (Or.inl rfl))) (fun _ _ _ _ _ => pts_nil) (fun _ _ _ _ _ => (pe_tup (pa_cons (pe_xfFrame_fun F (pv 4) rfl) (pa_cons (pe_xfFrame_at F (pv 4) rfl) pa_nil)))))
 (pss_cons (ps_if (pt_cmpR (op_neNil (hu_of hr)) (pv 2) (pe_lst pa_nil) (nomark _)) (pss_one (ps_expr (pe_bm PySem.F.plainAttrs_list PySem.F.slot_list_append PySem.F.type_list_append mt_append (pv 3) (pa_cons (pe_tup (pa_cons (pe_xfFrame_fun F (pe_ix ix_list (pv 2) (pe_un un_neg pe_int) (fun _ _ => rfl)) rfl) (pa_cons (pe_mt c_Machine_next_place hr (by omega) (pe_xfWatched_machine F (pv 0) rfl) (pa_cons (pv 1) pa_nil)) pa_nil))) pa_nil)))) pss_nil)
 (pss_one (ps_ret (pe_revL (pv 3))))))))
theorem sc_m_Watched_frame : FnScope n_m_Watched_frame ["self", "hand", "deep"] (defScope s_m_Watched_frame) := ⟨rfl, rfl, rfl, by decide +kernel, rfl, by decide +kernel, by decide +kernel⟩
theorem der_m_Watched_frame {P : Program} {w : World} {K : PySem.W.Frag} {mg : Str → Option Value} {base : Heap} {j : Nat}  (F : Fcts K) (G : Gx K mg) (c_Watched_need_hand : Met P w K mg base j (He.ga K "Watched") "need_hand" (sp_Watched_need_hand K w) []) (c_is_number : Cal P w K mg base j "is_number" (sp_is_number K w) []) {f : Addr} {cdv : Value} {A : Around} {outer : List Env} {s : Shared} {H : Hp} {E : XK} (hr : Room j (A.deeper (envOfC "Watched.frame" (defScope s_m_Watched_frame) s.heap.objs.size f cdv))) :
    PSs (cxOf CX0 P w K mg base n_m_Watched_frame "Watched.frame" (defScope s_m_Watched_frame) f cdv A outer s H E).nox (defBody s_m_Watched_frame) (t_m_Watched_frame K w ) :=
 (pss_cons (ps_expr (pe_mt c_Watched_need_hand hr (by omega) (pv 0) (pa_cons (pv 1) pa_nil)))
 (pss_cons (ps_set (i := 3) sc_m_Watched_frame.nd rfl (Or.inl rfl) (pe_ix ix_list (pe_xfMachine_hands F (pe_xfWatched_machine F (pv 0) rfl) rfl) (pv 1) (fun _ _ => rfl)))
 (pss_cons (ps_if (PW.pt (pw_or (pt_not (pt_val (pe_c c_is_number hr (by omega) (by rfl) (pa_cons (pv 2) pa_nil)))) (pw_or1 (pt_not (pt_chain op_le op_lt pe_int (pv 2) (pe_callB call_len_seq (by rfl) G.n_len PySem.boot_len (pa_cons (pv 3) pa_nil))))))) (pss_one ps_never) pss_nil)
 (pss_one (ps_ret (pe_ix ix_list (pv 3) (pe_op op_sub (pe_un un_neg pe_int) (pv 2)) (fun _ _ => rfl)))))))
theorem sc_m_Watched_look : FnScope n_m_Watched_look ["self", "hand", "deep"] (defScope s_m_Watched_look) := ⟨rfl, rfl, rfl, by decide +kernel, rfl, by decide +kernel, by decide +kernel⟩
theorem der_m_Watched_look {P : Program} {w : World} {K : PySem.W.Frag} {mg : Str → Option Value} {base : Heap} {j : Nat}  (F : Fcts K) (G : Gx K mg) (c_Watched_frame : Met P w K mg base j (He.ga K "Watched") "frame" (sp_Watched_frame K w) []) {f : Addr} {cdv : Value} {A : Around} {outer : List Env} {s : Shared} {H : Hp} {E : XK} (hr : Room j (A.deeper (envOfC "Watched.look" (defScope s_m_Watched_look) s.heap.objs.size f cdv))) :
    PSs (cxOf CX0 P w K mg base n_m_Watched_look "Watched.look" (defScope s_m_Watched_look) f cdv A outer s H E).nox (defBody s_m_Watched_look) (t_m_Watched_look K w ) :=
 (pss_one (ps_ret (pe_callTy call_list_of (by rfl) G.n_list (by decide +kernel) (pa_cons (pe_xfFrame_names F (pe_mt c_Watched_frame hr (by omega) (pv 0) (pa_cons (pv 1) (pa_cons (pv 2) pa_nil))) rfl) pa_nil))))
theorem sc_m_Watched_change : FnScope n_m_Watched_change ["self", "hand", "deep", "name", "number"] (defScope s_m_Watched_change) := ⟨rfl, rfl, rfl, by decide +kernel, rfl, by decide +kernel, by decide +kernel⟩
theorem der_m_Watched_change {P : Program} {w : World} {K : PySem.W.Frag} {mg : Str → Option Value} {base : Heap} {j : Nat}  (F : Fcts K) (G : Gx K mg) (c_Watched_frame : Met P w K mg base j (He.ga K "Watched") "frame" (sp_Watched_frame K w) []) (c_is_number : Cal P w K mg base j "is_number" (sp_is_number K w) []) (c_need_number : Cal P w K mg base j "need_number" (sp_need_number K w) []) {f : Addr} {cdv : Value} {A : Around} {outer : List Env} {s : Shared} {H : Hp} {E : XK} (hr : Room j (A.deeper (envOfC "Watched.change" (defScope s_m_Watched_change) s.heap.objs.size f cdv))) :
    PSs (cxOf CX0 P w K mg base n_m_Watched_change "Watched.change" (defScope s_m_Watched_change) f cdv A outer s H E).nox (defBody s_m_Watched_change) (t_m_Watched_change K w ) :=
 (pss_cons (ps_set (i := 5) sc_m_Watched_change.nd rfl (Or.inl rfl) (pe_xfFrame_names F (pe_mt c_Watched_frame hr (by omega) (pv 0) (pa_cons (pv 1) (pa_cons (pv 2) pa_nil))) rfl))
 (pss_cons (ps_if (PW.pt (pw_or (pt_not (pt_val (pe_c c_is_number hr (by omega) (by rfl) (pa_cons (pv 3) pa_nil)))) (pw_or1 (pt_not (pt_chain op_le op_lt pe_int (pv 3) (pe_callB call_len_seq (by rfl) G.n_len PySem.boot_len (pa_cons (pv 5) pa_nil))))))) (pss_one ps_never) pss_nil)
 (pss_cons (ps_expr (pe_c c_need_number hr (by omega) (by rfl) (pa_cons (pv 4) pa_nil)))
 (pss_one (ps_asg (pv 4) (pg_sub (pv 5) (pv 3) set_list))))))
theorem sc_m_Watched_put : FnScope n_m_Watched_put ["self", "cell", "number"] (defScope s_m_Watched_put) := ⟨rfl, rfl, rfl, by decide +kernel, rfl, by decide +kernel, by decide +kernel⟩
theorem der_m_Watched_put {P : Program} {w : World} {K : PySem.W.Frag} {mg : Str → Option Value} {base : Heap} {j : Nat}  (F : Fcts K) (G : Gx K mg) (c_is_number : Cal P w K mg base j "is_number" (sp_is_number K w) []) (c_need_number : Cal P w K mg base j "need_number" (sp_need_number K w) []) {f : Addr} {cdv : Value} {A : Around} {outer : List Env} {s : Shared} {H : Hp} {E : XK} (hr : Room j (A.deeper (envOfC "Watched.put" (defScope s_m_Watched_put) s.heap.objs.size f cdv))) :
    PSs (cxOf CX0 P w K mg base n_m_Watched_put "Watched.put" (defScope s_m_Watched_put) f cdv A outer s H E).nox (defBody s_m_Watched_put) (t_m_Watched_put K w ) :=
 (pss_cons (ps_if (PW.pt (pw_or (pt_not (pt_val (pe_c c_is_number hr (by omega) (by rfl) (pa_cons (pv 1) pa_nil)))) (pw_or1 (pt_not (pt_chain op_le op_lt pe_int (pv 1) (pe_callB call_len_seq (by rfl) G.n_len PySem.boot_len (pa_cons (pe_xfMachine_held F (pe_xfWatched_machine F (pv 0) rfl) rfl) pa_nil))))))) (pss_one ps_never) pss_nil)
 (pss_cons (ps_expr (pe_c c_need_number hr (by omega) (by rfl) (pa_cons (pv 2) pa_nil)))
 (pss_one (ps_asg (pv 2) (pg_sub (pe_xfMachine_held F (pe_xfWatched_machine F (pv 0) rfl) rfl) (pv 1) set_list)))))
theorem sc_m_Watched_cells : FnScope n_m_Watched_cells ["self"] (defScope s_m_Watched_cells) := ⟨rfl, rfl, rfl, by decide +kernel, rfl, by decide +kernel, by decide +kernel⟩
theorem der_m_Watched_cells {P : Program} {w : World} {K : PySem.W.Frag} {mg : Str → Option Value} {base : Heap} {j : Nat}  (F : Fcts K) (G : Gx K mg)  {f : Addr} {cdv : Value} {A : Around} {outer : List Env} {s : Shared} {H : Hp} {E : XK} (hr : Room j (A.deeper (envOfC "Watched.cells" (defScope s_m_Watched_cells) s.heap.objs.size f cdv))) :
    PSs (cxOf CX0 P w K mg base n_m_Watched_cells "Watched.cells" (defScope s_m_Watched_cells) f cdv A outer s H E).nox (defBody s_m_Watched_cells) (t_m_Watched_cells K w ) :=
 (pss_one (ps_ret (pe_callTy call_list_of (by rfl) G.n_list (by decide +kernel) (pa_cons (pe_xfMachine_held F (pe_xfWatched_machine F (pv 0) rfl) rfl) pa_nil))))
theorem sc_m_Watched_said : FnScope n_m_Watched_said ["self"] (defScope s_m_Watched_said) := ⟨rfl, rfl, rfl, by decide +kernel, rfl, by decide +kernel, by decide +kernel⟩
theorem der_m_Watched_said {P : Program} {w : World} {K : PySem.W.Frag} {mg : Str → Option Value} {base : Heap} {j : Nat}  (F : Fcts K) (G : Gx K mg)  {f : Addr} {cdv : Value} {A : Around} {outer : List Env} {s : Shared} {H : Hp} {E : XK} (hr : Room j (A.deeper (envOfC "Watched.said" (defScope s_m_Watched_said) s.heap.objs.size f cdv))) :
    PSs (cxOf CX0 P w K mg base n_m_Watched_said "Watched.said" (defScope s_m_Watched_said) f cdv A outer s H E).nox (defBody s_m_Watched_said) (t_m_Watched_said K w ) :=
 (pss_one (ps_ret (pe_callTy call_list_of (by rfl) G.n_list (by decide +kernel) (pa_cons (pe_xfMachine_talk F (pe_xfWatched_machine F (pv 0) rfl) rfl) pa_nil))))
theorem sc_m_Watched_is_over : FnScope n_m_Watched_is_over ["self"] (defScope s_m_Watched_is_over) := ⟨rfl, rfl, rfl, by decide +kernel, rfl, by decide +kernel, by decide +kernel⟩
theorem der_m_Watched_is_over {P : Program} {w : World} {K : PySem.W.Frag} {mg : Str → Option Value} {base : Heap} {j : Nat}  (F : Fcts K) (G : Gx K mg) (c_Machine_is_over : Met P w K mg base j (He.ga K "Machine") "is_over" (sp_Machine_is_over K w) []) {f : Addr} {cdv : Value} {A : Around} {outer : List Env} {s : Shared} {H : Hp} {E : XK} (hr : Room j (A.deeper (envOfC "Watched.is_over" (defScope s_m_Watched_is_over) s.heap.objs.size f cdv))) :
    PSs (cxOf CX0 P w K mg base n_m_Watched_is_over "Watched.is_over" (defScope s_m_Watched_is_over) f cdv A outer s H E).nox (defBody s_m_Watched_is_over) (t_m_Watched_is_over K w ) :=
 (pss_one (ps_ret (pe_mt0 c_Machine_is_over hr (by omega) (pe_xfWatched_machine F (pv 0) rfl))))
theorem sc_f_need_number : FnScope n_f_need_number ["number"] (defScope s_f_need_number) := ⟨rfl, rfl, rfl, by decide +kernel, rfl, by decide +kernel, by decide +kernel⟩
theorem der_f_need_number {P : Program} {w : World} {K : PySem.W.Frag} {mg : Str → Option Value} {base : Heap} {j : Nat}  (F : Fcts K) (G : Gx K mg) (c_is_number : Cal P w K mg base j "is_number" (sp_is_number K w) []) {f : Addr} {cdv : Value} {A : Around} {outer : List Env} {s : Shared} {H : Hp} {E : XK} (hr : Room j (A.deeper (envOfC "need_number" (defScope s_f_need_number) s.heap.objs.size f cdv))) :
    PSs (cxOf CX0 P w K mg base n_f_need_number "need_number" (defScope s_f_need_number) f cdv A outer s H E).nox (defBody s_f_need_number) (t_f_need_number K w ) :=
 (pss_one (ps_if (PW.pt (pw_or (pt_not (pt_val (pe_c c_is_number hr (by omega) (by rfl) (pa_cons (pv 0) pa_nil)))) (pw_or1 (pt_not (pt_chain op_le op_lt pe_int (pv 0) (pe_gc rfl (G.c_REST))))))) (pss_one ps_never) pss_nil))
theorem sc_f_law_dice : FnScope n_f_law_dice ["_law_script"] (defScope s_f_law_dice) := ⟨rfl, rfl, rfl, by decide +kernel, rfl, by decide +kernel, by decide +kernel⟩
theorem der_f_law_dice {P : Program} {w : World} {K : PySem.W.Frag} {mg : Str → Option Value} {base : Heap} {j : Nat}  (F : Fcts K) (G : Gx K mg)  {f : Addr} {cdv : Value} {A : Around} {outer : List Env} {s : Shared} {H : Hp} {E : XK} (hr : Room j (A.deeper (envOfC "_law_dice" (defScope s_f_law_dice) s.heap.objs.size f cdv))) :
    PSs (cxOf CX0 P w K mg base n_f_law_dice "_law_dice" (defScope s_f_law_dice) f cdv A outer s H E).nox (defBody s_f_law_dice) (t_f_law_dice K w ) :=
 (pss_cons (ps_set (i := 1) sc_f_law_dice.nd rfl (Or.inl rfl) pe_int)
 (pss_cons (ps_for PassesOwn.never rfl (pi_list (pv 0)) (pg_name (i := 2) sc_f_law_dice.nd rfl (Or.inl rfl)) (pss_one (ps_set (i := 1) sc_f_law_dice.nd rfl (Or.inl rfl) (pe_op op_mod (pe_op op_add (pe_op op_add (pe_op op_mul (pv 1) pe_int) (pe_op op_mul (pe_op op_mod (pv 2) pe_int) pe_int)) pe_int) pe_int))))
 (pss_one (ps_ret (pe_lst (pa_cons (pv 0) (pa_cons pe_int (pa_cons (pe_op op_mul (pv 1) (pe_callTy call_int1 (by rfl) G.n_int (by decide +kernel) (pa_cons (pe_cmpR op_gt (pe_callB call_len_seq (by rfl) G.n_len PySem.boot_len (pa_cons (pv 0) pa_nil)) pe_int (nomark _)) pa_nil))) (pa_cons pe_int pa_nil)))))))))
theorem sc_f_law_next : FnScope n_f_law_next ["_law_dice_here", "_law_many"] (defScope s_f_law_next) := ⟨rfl, rfl, rfl, by decide +kernel, rfl, by decide +kernel, by decide +kernel⟩
theorem der_f_law_next {P : Program} {w : World} {K : PySem.W.Frag} {mg : Str → Option Value} {base : Heap} {j : Nat}  (F : Fcts K) (G : Gx K mg)  {f : Addr} {cdv : Value} {A : Around} {outer : List Env} {s : Shared} {H : Hp} {E : XK} (hr : Room j (A.deeper (envOfC "_law_next" (defScope s_f_law_next) s.heap.objs.size f cdv))) :
    PSs (cxOf CX0 P w K mg base n_f_law_next "_law_next" (defScope s_f_law_next) f cdv A outer s H E).nox (defBody s_f_law_next) (t_f_law_next K w ) :=
 (pss_cons (ps_if (pt_cmpR op_gt (pe_ix ix_list (pv 0) pe_int (fun _ _ => rfl)) pe_int (nomark _)) (pss_cons (ps_set (i := 2) sc_f_law_next.nd rfl (Or.inl rfl) (pe_op op_mod (pe_ix ix_list (pv 0) pe_int (fun _ _ => rfl)) (pv 1)))
 (pss_cons (ps_asg (pe_op op_fdiv (pe_ix ix_list (pv 0) pe_int (fun _ _ => rfl)) (pv 1)) (pg_sub (pv 0) pe_int set_list))
 (pss_one (ps_ret (pv 2))))) pss_nil)
 (pss_cons (ps_asg (pe_op op_add (pe_ix ix_list (pv 0) pe_int (fun _ _ => rfl)) pe_int) (pg_sub (pv 0) pe_int set_list))
 (pss_cons (ps_if (pt_cmpR op_le (pe_ix ix_list (pv 0) pe_int (fun _ _ => rfl)) (pe_callB call_len_seq (by rfl) G.n_len PySem.boot_len (pa_cons (pe_ix ix_list (pv 0) pe_int (fun _ _ => rfl)) pa_nil)) (nomark _)) (pss_cons (ps_set (i := 3) sc_f_law_next.nd rfl (Or.inl rfl) (pe_ix ix_list (pe_ix ix_list (pv 0) pe_int (fun _ _ => rfl)) (pe_op op_sub (pe_ix ix_list (pv 0) pe_int (fun _ _ => rfl)) pe_int) (fun _ _ => rfl)))
 (pss_cons (ps_asg (pe_ifExp (pt_cmpR op_ge (pv 3) (pe_op op_pow pe_int pe_int) (nomark _)) (pe_op op_fdiv (pv 3) (pv 1)) pe_int) (pg_sub (pv 0) pe_int set_list))
 (pss_one (ps_ret (pe_op op_mod (pv 3) (pv 1)))))) pss_nil)
 (pss_cons (ps_asg (pe_op op_mod (pe_op op_mul (pe_ix ix_list (pv 0) pe_int (fun _ _ => rfl)) pe_int) pe_int) (pg_sub (pv 0) pe_int set_list))
 (pss_one (ps_ret (pe_op op_mod (pe_op op_fdiv (pe_ix ix_list (pv 0) pe_int (fun _ _ => rfl)) pe_int) (pv 1))))))))
theorem sc_f_law_part : FnScope n_f_law_part ["_law_d", "_law_names_here", "_law_cells", "_law_deep"] (defScope s_f_law_part) := ⟨rfl, rfl, rfl, by decide +kernel, rfl, by decide +kernel, by decide +kernel⟩
theorem der_f_law_part {P : Program} {w : World} {K : PySem.W.Frag} {mg : Str → Option Value} {base : Heap} {j : Nat} (n : Nat) (F : Fcts K) (G : Gx K mg) (c_law_next : Cal P w K mg base j "_law_next" (sp_law_next K w) []) (c_law_part : Cal P w K mg base j "_law_part" (sp_law_part n K w) []) {f : Addr} {cdv : Value} {A : Around} {outer : List Env} {s : Shared} {H : Hp} {E : XK} (hr : Room j (A.deeper (envOfC "_law_part" (defScope s_f_law_part) s.heap.objs.size f cdv))) :
    PSs (cxOf CX0 P w K mg base n_f_law_part "_law_part" (defScope s_f_law_part) f cdv A outer s H E).nox (defBody s_f_law_part) (t_f_law_part K w n) :=
 (pss_cons (ps_set (i := 4) sc_f_law_part.nd rfl (Or.inl rfl) (pe_c c_law_next hr (by omega) (by rfl) (pa_cons (pv 0) (pa_cons pe_int pa_nil))))
 (pss_cons (ps_if (PW.pt (pw_and (pt_cmpR op_gt (pv 1) pe_int (nomark _)) (pw_and1 (pt_cmpR op_lt (pv 4) pe_int (nomark _))))) (pss_one (ps_ret (pe_tup (pa_cons pe_str (pa_cons (pe_c c_law_next hr (by omega) (by rfl) (pa_cons (pv 0) (pa_cons (pv 1) pa_nil))) pa_nil))))) pss_nil)
 (pss_cons (ps_if (PW.pt (pw_or (pt_cmpR op_eq (pv 3) pe_int (nomark _)) (pw_or1 (pt_cmpR op_lt (pv 4) pe_int (nomark _))))) (pss_cons (ps_set (i := 5) sc_f_law_part.nd rfl (Or.inl rfl) (pe_ix ix_list (pe_lst (pa_cons (pe_c c_law_next hr (by omega) (by rfl) (pa_cons (pv 0) (pa_cons pe_int pa_nil))) (pa_cons (pe_c c_law_next hr (by omega) (by rfl) (pa_cons (pv 0) (pa_cons pe_int pa_nil))) pa_nil))) (pe_callTy call_int1 (by rfl) G.n_int (by decide +kernel) (pa_cons (pe_cmpR op_eq (pe_c c_law_next hr (by omega) (by rfl) (pa_cons (pv 0) (pa_cons pe_int pa_nil))) pe_int (nomark _)) pa_nil)) (fun _ _ => rfl)))
 (pss_one (ps_ret (pe_ix ix_list (pe_lst (pa_cons (pe_tup (pa_cons pe_str (pa_cons (pv 5) pa_nil))) (pa_cons (pe_tup (pa_cons pe_str (pa_cons (pe_c c_law_next hr (by omega) (by rfl) (pa_cons (pv 0) (pa_cons (pv 2) pa_nil))) pa_nil))) pa_nil))) (pe_op op_mod (pv 4) pe_int) (fun _ _ => rfl))))) pss_nil)
 (pss_cons (ps_set (i := 6) sc_f_law_part.nd rfl (Or.inl rfl) (pe_ix ix_list (pe_lst (pa_cons pe_str (pa_cons pe_str (pa_cons pe_str (pa_cons pe_str (pa_cons pe_str pa_nil)))))) (pe_c c_law_next hr (by omega) (by rfl) (pa_cons (pv 0) (pa_cons pe_int pa_nil))) (fun _ _ => rfl)))
 (pss_one (ps_ret (pe_tup (pa_cons (pv 6) (pa_cons (pe_c c_law_part hr (by omega) (by rfl) (pa_cons (pv 0) (pa_cons (pv 1) (pa_cons (pv 2) (pa_cons (pe_op op_sub (pv 3) pe_int) pa_nil))))) (pa_cons (pe_c c_law_part hr (by omega) (by rfl) (pa_cons (pv 0) (pa_cons (pv 1) (pa_cons (pv 2) (pa_cons (pe_op op_sub (pv 3) pe_int) pa_nil))))) pa_nil))))))))))
theorem sc_f_law_body : FnScope n_f_law_body ["_law_d", "_law_s", "_law_deep", "_law_most"] (defScope s_f_law_body) := ⟨rfl, rfl, rfl, by decide +kernel, rfl, by decide +kernel, by decide +kernel⟩
theorem der_f_law_body {P : Program} {w : World} {K : PySem.W.Frag} {mg : Str → Option Value} {base : Heap} {j : Nat} (n : Nat) (F : Fcts K) (G : Gx K mg) (c_law_next : Cal P w K mg base j "_law_next" (sp_law_next K w) []) (c_law_part : Cal P w K mg base j "_law_part" (sp_law_part 4 K w) []) (c_law_body : Cal P w K mg base j "_law_body" (sp_law_body n K w) []) {f : Addr} {cdv : Value} {A : Around} {outer : List Env} {s : Shared} {H : Hp} {E : XK} (hr : Room j (A.deeper (envOfC "_law_body" (defScope s_f_law_body) s.heap.objs.size f cdv))) :
    PSs (cxOf CX0 P w K mg base n_f_law_body "_law_body" (defScope s_f_law_body) f cdv A outer s H E).nox (defBody s_f_law_body) (t_f_law_body K w n) :=
 (pss_cons (ps_set (i := 4) sc_f_law_body.nd rfl (Or.inl rfl) (pe_tup pa_nil))
 (pss_cons (ps_asg (pv 1) (pg_tup rfl (pgs_cons (pg_name (i := 5) sc_f_law_body.nd rfl (Or.inr rfl)) (pgs_cons (pg_name (i := 6) sc_f_law_body.nd rfl (Or.inr rfl)) (pgs_cons (pg_name (i := 7) sc_f_law_body.nd rfl (Or.inl rfl)) pgs_nil)))))
 (pss_cons (ps_for PassesOwn.never rfl (pi_range1 rfl G.n_range (pa_cons (pe_c c_law_next hr (by omega) (by rfl) (pa_cons (pv 0) (pa_cons (pe_op op_add (pv 3) pe_int) pa_nil))) pa_nil)) (pg_name (i := 8) sc_f_law_body.nd rfl (Or.inl rfl)) (pss_cons (ps_set (i := 9) sc_f_law_body.nd rfl (Or.inl rfl) (pe_c c_law_next hr (by omega) (by rfl) (pa_cons (pv 0) (pa_cons pe_int pa_nil))))
 (pss_cons (ps_set (i := 10) sc_f_law_body.nd rfl (Or.inl rfl) (pe_c c_law_part hr (by omega) (by rfl) (pa_cons (pv 0) (pa_cons (pv 5) (pa_cons (pv 6) (pa_cons (pe_c c_law_next hr (by omega) (by rfl) (pa_cons (pv 0) (pa_cons pe_int pa_nil))) pa_nil))))))
 (pss_one (ps_if (PW.pt (pw_and (pt_cmpR op_lt (pv 9) pe_int (nomark _)) (pw_and1 (pt_cmpR op_gt (pv 5) pe_int (nomark _))))) (pss_one (ps_set (i := 4) sc_f_law_body.nd rfl (Or.inl rfl) (pe_op op_catA (pv 4) (pe_tup (pa_cons (pe_tup (pa_cons pe_str (pa_cons (pe_c c_law_next hr (by omega) (by rfl) (pa_cons (pv 0) (pa_cons (pv 5) pa_nil))) (pa_cons (pv 10) pa_nil)))) pa_nil))))) (pss_one (ps_if (pt_cmpR op_lt (pv 9) pe_int (nomark _)) (pss_one (ps_set (i := 4) sc_f_law_body.nd rfl (Or.inl rfl) (pe_op op_catA (pv 4) (pe_tup (pa_cons (pe_tup (pa_cons pe_str (pa_cons (pe_c c_law_next hr (by omega) (by rfl) (pa_cons (pv 0) (pa_cons (pv 6) pa_nil))) (pa_cons (pv 10) pa_nil)))) pa_nil))))) (pss_one (ps_if (pt_cmpR op_lt (pv 9) pe_int (nomark _)) (pss_one (ps_set (i := 4) sc_f_law_body.nd rfl (Or.inl rfl) (pe_op op_catA (pv 4) (pe_tup (pa_cons (pe_tup (pa_cons pe_str (pa_cons (pv 10) pa_nil))) pa_nil))))) (pss_one (ps_if (PW.pt (pw_and (pt_cmpR op_eq (pv 9) pe_int (nomark _)) (pw_and1 (pt_cmpR op_gt (pv 2) pe_int (nomark _))))) (pss_cons (ps_setLc (i := 11) (own := [("_law_k", 12)]) (g := (gName 12)) (tt := tYes) rfl sc_f_law_body.nd rfl rfl (sw_true rfl rfl rfl (by decide +kernel)) (pi_range1 rfl G.n_range (pa_cons pe_int pa_nil)) (blkOk_by (own := [("_law_k", 12)]) (N := n_f_law_body) (sc := defScope s_f_law_body) (by decide +kernel)) (fun _ _ _ _ _ => (pg_name (i := 12) sc_f_law_body.nd rfl (Or.inl rfl))) (fun _ _ _ _ _ => pts_nil) (fun _ _ _ _ _ => (pe_c c_law_body hr (by omega) (by rfl) (pa_cons (pv 0) (pa_cons (pv 1) (pa_cons (pe_op op_sub (pv 2) pe_int) (pa_cons pe_int pa_nil)))))))
 (pss_one (ps_set (i := 4) sc_f_law_body.nd rfl (Or.inl rfl) (pe_op op_catA (pv 4) (pe_tup (pa_cons (pe_tup (pa_cons pe_str (pa_cons (pv 10) (pa_cons (pe_ix ix_list (pv 11) pe_int (fun _ _ => rfl)) (pa_cons (pe_ix ix_list (pv 11) pe_int (fun _ _ => rfl)) pa_nil))))) pa_nil)))))) (pss_one (ps_if (PW.pt (pw_and (pt_cmpR op_eq (pv 9) pe_int (nomark _)) (pw_and1 (pt_cmpR op_gt (pv 2) pe_int (nomark _))))) (pss_one (ps_set (i := 4) sc_f_law_body.nd rfl (Or.inl rfl) (pe_op op_catA (pv 4) (pe_tup (pa_cons (pe_tup (pa_cons pe_str (pa_cons (pv 10) (pa_cons (pe_c c_law_body hr (by omega) (by rfl) (pa_cons (pv 0) (pa_cons (pv 1) (pa_cons (pe_op op_sub (pv 2) pe_int) (pa_cons pe_int pa_nil))))) pa_nil)))) pa_nil))))) (pss_one (ps_if (PW.pt (pw_and (pt_cmpR op_lt (pv 9) pe_int (nomark _)) (pw_and1 (pt_cmpR op_gt (pv 5) pe_int (nomark _))))) (pss_cons (ps_set (i := 13) sc_f_law_body.nd rfl (Or.inl rfl) (pe_c c_law_next hr (by omega) (by rfl) (pa_cons (pv 0) (pa_cons (pe_callB call_len_seq (by rfl) G.n_len PySem.boot_len (pa_cons (pv 7) pa_nil)) pa_nil))))
 (pss_cons (ps_set (i := 14) sc_f_law_body.nd rfl (Or.inl rfl) (pe_callTy call_tuple_of (by rfl) G.n_tuple (by decide +kernel) (pa_cons (pe_lc (own := [("_law_k", 12)]) (g := (gName 12)) (tt := tYes) rfl sc_f_law_body.nd (pi_range1 rfl G.n_range (pa_cons (pe_ix ix_list (pv 7) (pv 13) (fun _ _ => rfl)) pa_nil)) (blkOk_by (own := [("_law_k", 12)]) (N := n_f_law_body) (sc := defScope s_f_law_body) (by decide +kernel)) (fun _ _ _ _ _ => (pg_name (i := 12) sc_f_law_body.nd rfl (Or.inl rfl))) (fun _ _ _ _ _ => pts_nil) (fun _ _ _ _ _ => (pe_c c_law_part hr (by omega) (by rfl) (pa_cons (pv 0) (pa_cons (pv 5) (pa_cons (pv 6) (pa_cons pe_int pa_nil))))))) pa_nil)))
 (pss_one (ps_set (i := 4) sc_f_law_body.nd rfl (Or.inl rfl) (pe_op op_catA (pv 4) (pe_tup (pa_cons (pe_tup (pa_cons pe_str (pa_cons (pv 13) (pa_cons (pv 14) (pa_cons (pe_c c_law_next hr (by omega) (by rfl) (pa_cons (pv 0) (pa_cons (pv 5) pa_nil))) pa_nil))))) pa_nil))))))) (pss_one (ps_if (PW.pt (pw_and (pt_cmpR op_eq (pv 9) pe_int (nomark _)) (pw_and1 (pt_cmpR op_eq (pe_c c_law_next hr (by omega) (by rfl) (pa_cons (pv 0) (pa_cons pe_int pa_nil))) pe_int (nomark _))))) (pss_one (ps_set (i := 4) sc_f_law_body.nd rfl (Or.inl rfl) (pe_op op_catA (pv 4) (pe_tup (pa_cons (pe_tup (pa_cons pe_str (pa_cons (pv 10) pa_nil))) pa_nil))))) pss_nil)))))))))))))))))
 (pss_one (ps_ret (pv 4))))))
theorem sc_f_law_count : FnScope n_f_law_count ["_law_thing"] (defScope s_f_law_count) := ⟨rfl, rfl, rfl, by decide +kernel, rfl, by decide +kernel, by decide +kernel⟩
theorem der_f_law_count {P : Program} {w : World} {K : PySem.W.Frag} {mg : Str → Option Value} {base : Heap} {j : Nat} (n : Nat) (F : Fcts K) (G : Gx K mg) (c_law_count : Cal P w K mg base j "_law_count" (sp_law_count n K w) []) {f : Addr} {cdv : Value} {A : Around} {outer : List Env} {s : Shared} {H : Hp} {E : XK} (hr : Room j (A.deeper (envOfC "_law_count" (defScope s_f_law_count) s.heap.objs.size f cdv))) :
    PSs (cxOf CX0 P w K mg base n_f_law_count "_law_count" (defScope s_f_law_count) f cdv A outer s H E).nox (defBody s_f_law_count) (t_f_law_count K w n) :=
 (pss_cons (ps_set (i := 1) sc_f_law_count.nd rfl (Or.inl rfl) pe_int)
 (pss_cons (ps_for PassesOwn.never rfl (pi_tup (pv 0)) (pg_name (i := 2) sc_f_law_count.nd rfl (Or.inl rfl)) (pss_one (ps_if (pt_val (pe_callB call_isi' (by rfl) G.n_isinstance (by decide +kernel) (pa_cons (pv 2) (pa_cons (pe_bltn (by rfl) G.n_tuple boot_tuple rfl) pa_nil)))) (pss_one (ps_set (i := 1) sc_f_law_count.nd rfl (Or.inl rfl) (pe_op op_add (pe_op op_add (pv 1) (pe_c c_law_count hr (by omega) (by rfl) (pa_cons (pv 2) pa_nil))) (pe_callTy call_int1 (by rfl) G.n_int (by decide +kernel) (pa_cons (pe_and (pe_cmpR (op_neNilT (hu_of hr)) (pv 2) (pe_tup pa_nil) (nomark _)) (pe_one (pe_callB call_isi' (by rfl) G.n_isinstance (by decide +kernel) (pa_cons (pe_ix ix_tup (pv 2) pe_int (fun _ _ => rfl)) (pa_cons (pe_bltn (by rfl) G.n_str boot_str rfl) pa_nil))))) pa_nil))))) pss_nil)))
 (pss_one (ps_ret (pv 1)))))
theorem sc_f_law_program : FnScope n_f_law_program ["_law_d"] (defScope s_f_law_program) := ⟨rfl, rfl, rfl, by decide +kernel, rfl, by decide +kernel, by decide +kernel⟩
theorem der_f_law_program {P : Program} {w : World} {K : PySem.W.Frag} {mg : Str → Option Value} {base : Heap} {j : Nat}  (F : Fcts K) (G : Gx K mg) (c_law_next : Cal P w K mg base j "_law_next" (sp_law_next K w) []) (c_law_body : Cal P w K mg base j "_law_body" (sp_law_body 5 K w) []) (c_law_count : Cal P w K mg base j "_law_count" (sp_law_count 20 K w) []) {f : Addr} {cdv : Value} {A : Around} {outer : List Env} {s : Shared} {H : Hp} {E : XK} (hr : Room j (A.deeper (envOfC "_law_program" (defScope s_f_law_program) s.heap.objs.size f cdv))) :
    PSs (cxOf CX0 P w K mg base n_f_law_program "_law_program" (defScope s_f_law_program) f cdv A outer s H E).nox (defBody s_f_law_program) (t_f_law_program K w ) :=
 (pss_cons (ps_set (i := 1) sc_f_law_program.nd rfl (Or.inl rfl) (pe_tup pa_nil))
 (pss_cons (ps_for PassesOwn.never rfl (pi_range1 rfl G.n_range (pa_cons (pe_op op_add pe_int (pe_c c_law_next hr (by omega) (by rfl) (pa_cons (pv 0) (pa_cons pe_int pa_nil)))) pa_nil)) (pg_name (i := 2) sc_f_law_program.nd rfl (Or.inl rfl)) (pss_one (ps_set (i := 1) sc_f_law_program.nd rfl (Or.inl rfl) (pe_op op_catA (pv 1) (pe_tup (pa_cons (pe_ix ix_list (pe_lst (pa_cons (pe_c c_law_next hr (by omega) (by rfl) (pa_cons (pv 0) (pa_cons pe_int pa_nil))) (pa_cons (pe_c c_law_next hr (by omega) (by rfl) (pa_cons (pv 0) (pa_cons pe_int pa_nil))) pa_nil))) (pe_c c_law_next hr (by omega) (by rfl) (pa_cons (pv 0) (pa_cons pe_int pa_nil))) (fun _ _ => rfl)) pa_nil))))))
 (pss_cons (ps_set (i := 3) sc_f_law_program.nd rfl (Or.inl rfl) (pe_lst (pa_cons (pe_tup (pa_cons pe_int (pa_cons (pe_c c_law_next hr (by omega) (by rfl) (pa_cons (pv 0) (pa_cons pe_int pa_nil))) pa_nil))) pa_nil)))
 (pss_cons (ps_for PassesOwn.never rfl (pi_range1 rfl G.n_range (pa_cons (pe_c c_law_next hr (by omega) (by rfl) (pa_cons (pv 0) (pa_cons pe_int pa_nil))) pa_nil)) (pg_name (i := 2) sc_f_law_program.nd rfl (Or.inl rfl)) (pss_cons (ps_set (i := 4) sc_f_law_program.nd rfl (Or.inl rfl) (pe_c c_law_next hr (by omega) (by rfl) (pa_cons (pv 0) (pa_cons pe_int pa_nil))))
 (pss_one (ps_expr (pe_bm PySem.F.plainAttrs_list PySem.F.slot_list_append PySem.F.type_list_append mt_append (pv 3) (pa_cons (pe_tup (pa_cons (pe_c c_law_next hr (by omega) (by rfl) (pa_cons (pv 0) (pa_cons (pe_op op_add (pv 4) pe_int) pa_nil))) (pa_cons (pv 4) pa_nil))) pa_nil))))))
 (pss_cons (ps_frzS (ps_set (i := 5) sc_f_law_program.nd rfl (Or.inr rfl) (pe_lc (own := [("_law_head", 6)]) (g := (gName 6)) (tt := tYes) rfl sc_f_law_program.nd (pi_list (pv 3)) (blkOk_by (own := [("_law_head", 6)]) (N := n_f_law_program) (sc := defScope s_f_law_program) (by decide +kernel)) (fun _ _ _ _ _ => (pg_name (i := 6) sc_f_law_program.nd rfl (Or.inl rfl))) (fun _ _ _ _ _ => pts_nil) (fun _ _ _ _ _ => (pe_ix ix_tup (pv 6) pe_int (fun _ _ => rfl))))))
 (pss_cons (ps_set (i := 7) sc_f_law_program.nd rfl (Or.inl rfl) (pe_lst pa_nil))
 (pss_cons (ps_for PassesOwn.never rfl (pi_list (pv 3)) (pg_name (i := 6) sc_f_law_program.nd rfl (Or.inl rfl)) (pss_cons (ps_set (i := 8) sc_f_law_program.nd rfl (Or.inl rfl) (pe_ix ix_list (pe_lst (pa_cons pe_int (pa_cons pe_int (pa_cons pe_int (pa_cons pe_int pa_nil))))) (pe_c c_law_next hr (by omega) (by rfl) (pa_cons (pv 0) (pa_cons pe_int pa_nil))) (fun _ _ => rfl)))
 (pss_cons (ps_set (i := 9) sc_f_law_program.nd rfl (Or.inl rfl) (pe_c c_law_body hr (by omega) (by rfl) (pa_cons (pv 0) (pa_cons (pe_tup (pa_cons (pe_ix ix_tup (pv 6) pe_int (fun _ _ => rfl)) (pa_cons (pe_callB call_len_seq (by rfl) G.n_len PySem.boot_len (pa_cons (pv 1) pa_nil)) (pa_cons (pv 5) pa_nil)))) (pa_cons (pv 8) (pa_cons (pe_ix ix_list (pe_lst (pa_cons pe_int (pa_cons pe_int pa_nil))) (pe_c c_law_next hr (by omega) (by rfl) (pa_cons (pv 0) (pa_cons pe_int pa_nil))) (fun _ _ => rfl)) pa_nil))))))
 (pss_one (ps_expr (pe_bm PySem.F.plainAttrs_list PySem.F.slot_list_append PySem.F.type_list_append mt_append (pv 7) (pa_cons (pe_tup (pa_cons (pe_ix ix_tup (pv 6) pe_int (fun _ _ => rfl)) (pa_cons (pe_ix ix_tup (pv 6) pe_int (fun _ _ => rfl)) (pa_cons (pv 9) pa_nil)))) pa_nil)))))))
 (pss_cons (ps_while PassesOwn.never (pt_cmpR op_gt (pe_callB (cr_sum rfl) (by rfl) G.n_sum (by decide +kernel) (pa_cons (pe_lc (own := [("_law_fun", 10)]) (g := (gName 10)) (tt := tYes) rfl sc_f_law_program.nd (pi_list (pv 7)) (blkOk_by (own := [("_law_fun", 10)]) (N := n_f_law_program) (sc := defScope s_f_law_program) (by decide +kernel)) (fun _ _ _ _ _ => (pg_name (i := 10) sc_f_law_program.nd rfl (Or.inl rfl))) (fun _ _ _ _ _ => pts_nil) (fun _ _ _ _ _ => (pe_c c_law_count hr (by omega) (by rfl) (pa_cons (pe_ix ix_tup (pv 10) pe_int (fun _ _ => rfl)) pa_nil)))) pa_nil)) pe_int (nomark _)) (pss_one (ps_setLc (i := 7) (own := [("_law_fun", 10)]) (g := (gName 10)) (tt := tYes) rfl sc_f_law_program.nd rfl rfl (sw_true rfl rfl rfl (by decide +kernel)) (pi_list (pv 7)) (blkOk_by (own := [("_law_fun", 10)]) (N := n_f_law_program) (sc := defScope s_f_law_program) (by decide +kernel)) (fun _ _ _ _ _ => (pg_name (i := 10) sc_f_law_program.nd rfl (Or.inl rfl))) (fun _ _ _ _ _ => pts_nil) (fun _ _ _ _ _ => (pe_tup (pa_cons (pe_ix ix_tup (pv 10) pe_int (fun _ _ => rfl)) (pa_cons (pe_ix ix_tup (pv 10) pe_int (fun _ _ => rfl)) (pa_cons (pe_slice sl_tupA (pe_ix ix_tup (pv 10) pe_int (fun _ _ => rfl)) (po_some pe_int) po_none) pa_nil))))))))
 (pss_cons (ps_set (i := 11) sc_f_law_program.nd rfl (Or.inr rfl) (pe_lc (own := [("_law_k", 2)]) (g := (gName 2)) (tt := (tTest (tOp rEq (tOp (rIxL K) (tVar 5) (tVar 2)) (tC (.int 0))))) rfl sc_f_law_program.nd (pi_range1 rfl G.n_range (pa_cons (pe_callB call_len_seq (by rfl) G.n_len PySem.boot_len (pa_cons (pv 3) pa_nil)) pa_nil)) (blkOk_by (own := [("_law_k", 2)]) (N := n_f_law_program) (sc := defScope s_f_law_program) (by decide +kernel)) (fun _ _ _ _ _ => (pg_name (i := 2) sc_f_law_program.nd rfl (Or.inl rfl))) (fun _ _ _ _ _ => (pts_one (pt_cmpR op_eq (pe_ix ix_list (pv 5) (pv 2) (fun _ _ => rfl)) pe_int (nomark _)))) (fun _ _ _ _ _ => (pv 2))))
 (pss_cons (ps_set (i := 12) sc_f_law_program.nd rfl (Or.inl rfl) (pe_callTy call_tuple_of (by rfl) G.n_tuple (by decide +kernel) (pa_cons (pe_lc (own := [("_law_k", 2)]) (g := (gName 2)) (tt := tYes) rfl sc_f_law_program.nd (pi_range1 rfl G.n_range (pa_cons (pe_op op_add pe_int (pe_c c_law_next hr (by omega) (by rfl) (pa_cons (pv 0) (pa_cons pe_int pa_nil)))) pa_nil)) (blkOk_by (own := [("_law_k", 2)]) (N := n_f_law_program) (sc := defScope s_f_law_program) (by decide +kernel)) (fun _ _ _ _ _ => (pg_name (i := 2) sc_f_law_program.nd rfl (Or.inl rfl))) (fun _ _ _ _ _ => pts_nil) (fun _ _ _ _ _ => (pe_ix ix_list (pv 11) (pe_c c_law_next hr (by omega) (by rfl) (pa_cons (pv 0) (pa_cons (pe_callB call_len_seq (by rfl) G.n_len PySem.boot_len (pa_cons (pv 11) pa_nil)) pa_nil))) (fun _ _ => rfl)))) pa_nil)))
 (pss_one (ps_ret (pe_tup (pa_cons (pv 1) (pa_cons (pe_callTy call_tuple_of (by rfl) G.n_tuple (by decide +kernel) (pa_cons (pv 7) pa_nil)) (pa_cons (pv 12) pa_nil))))))))))))))))
theorem sc_f_law_names : FnScope n_f_law_names ["_law_watched", "_law_hands"] (defScope s_f_law_names) := ⟨rfl, rfl, rfl, by decide +kernel, rfl, by decide +kernel, by decide +kernel⟩
theorem der_f_law_names {P : Program} {w : World} {K : PySem.W.Frag} {mg : Str → Option Value} {base : Heap} {j : Nat}  (F : Fcts K) (G : Gx K mg) (c_Watched_stack : Met P w K mg base j (He.ga K "Watched") "stack" (sp_Watched_stack K w) []) (c_Watched_look : Met P w K mg base j (He.ga K "Watched") "look" (sp_Watched_look K w) []) {f : Addr} {cdv : Value} {A : Around} {outer : List Env} {s : Shared} {H : Hp} {E : XK} (hr : Room j (A.deeper (envOfC "_law_names" (defScope s_f_law_names) s.heap.objs.size f cdv))) :
    PSs (cxOf CX0 P w K mg base n_f_law_names "_law_names" (defScope s_f_law_names) f cdv A outer s H E).nox (defBody s_f_law_names) (t_f_law_names K w ) :=
 (pss_one (ps_ret (pe_lc (own := [("_law_hand", 3)]) (g := (gName 3)) (tt := tYes) rfl sc_f_law_names.nd (pi_range1 rfl G.n_range (pa_cons (pv 1) pa_nil)) (blkOk_by (own := [("_law_hand", 3)]) (N := n_f_law_names) (sc := defScope s_f_law_names) (by decide +kernel)) (fun _ _ _ _ _ => (pg_name (i := 3) sc_f_law_names.nd rfl (Or.inr rfl))) (fun _ _ _ _ _ => pts_nil) (fun _ _ _ _ _ => (pe_lc (own := [("_law_deep", 2)]) (g := (gName 2)) (tt := tYes) rfl sc_f_law_names.nd (pi_range1 rfl G.n_range (pa_cons (pe_callB call_len_seq (by rfl) G.n_len PySem.boot_len (pa_cons (pe_mt c_Watched_stack hr (by omega) (pv 0) (pa_cons (pv 3) pa_nil)) pa_nil)) pa_nil)) (blkOk_by (own := [("_law_deep", 2)]) (N := n_f_law_names) (by kernel_rfl)) (fun _ _ _ _ _ => (pg_name (i := 2) sc_f_law_names.nd rfl (Or.inl rfl))) (fun _ _ _ _ _ => pts_nil) (fun _ _ _ _ _ => (pe_mt c_Watched_look hr (by omega) (pv 0) (pa_cons (pv 3) (pa_cons (pv 2) pa_nil)))))))))
theorem sc_f_law : FnScope n_f_law ["_law_script"] (defScope s_f_law) := ⟨rfl, rfl, rfl, by decide +kernel, rfl, by decide +kernel, by decide +kernel⟩
theorem der_f_law {P : Program} {w : World} {K : PySem.W.Frag} {mg : Str → Option Value} {base : Heap} {j : Nat}  (F : Fcts K) (G : Gx K mg) (c_law_dice : Cal P w K mg base j "_law_dice" (sp_law_dice K w) []) (c_law_program : Cal P w K mg base j "_law_program" (sp_law_program K w) []) (c_law_next : Cal P w K mg base j "_law_next" (sp_law_next K w) []) {jm_Watched : Nat} (hj_Watched : jm_Watched + 1 ≤ j) (c_Watched : Mak P w K mg base jm_Watched "Watched" (He.ga K "Watched") (sp_Watched_init K w) []) (c_Watched_put : Met P w K mg base j (He.ga K "Watched") "put" (sp_Watched_put K w) []) (c_Watched_is_over : Met P w K mg base j (He.ga K "Watched") "is_over" (sp_Watched_is_over K w) []) (c_Watched_go : Met P w K mg base j (He.ga K "Watched") "go" (sp_Watched_go K w) []) (c_plain : Cal P w K mg base j "plain" (sp_plain K w) []) (c_Watched_said : Met P w K mg base j (He.ga K "Watched") "said" (sp_Watched_said K w) []) (c_Watched_cells : Met P w K mg base j (He.ga K "Watched") "cells" (sp_Watched_cells K w) []) (c_law_names : Cal P w K mg base j "_law_names" (sp_law_names K w) []) (c_Watched_change : Met P w K mg base j (He.ga K "Watched") "change" (sp_Watched_change K w) []) {f : Addr} {cdv : Value} {A : Around} {outer : List Env} {s : Shared} {H : Hp} {E : XK} (hr : Room j (A.deeper (envOfC "law" (defScope s_f_law) s.heap.objs.size f cdv))) :
    PSs (cxOf CX0 P w K mg base n_f_law "law" (defScope s_f_law) f cdv A outer s H E).nox (defBody s_f_law) (t_f_law K w ) :=
 (pss_cons (ps_set (i := 1) sc_f_law.nd rfl (Or.inr rfl) (pe_c c_law_dice hr (by omega) (by rfl) (pa_cons (pv 0) pa_nil)))
 (pss_cons (ps_for PassesOwn.never rfl (pi_range1 rfl G.n_range (pa_cons pe_int pa_nil)) (pg_name (i := 2) sc_f_law.nd rfl (Or.inl rfl)) (pss_cons (ps_set (i := 3) sc_f_law.nd rfl (Or.inl rfl) (pe_c c_law_program hr (by omega) (by rfl) (pa_cons (pv 1) pa_nil)))
 (pss_cons (ps_asg (pv 3) (pg_tup rfl (pgs_cons (pg_name (i := 4) sc_f_law.nd rfl (Or.inl rfl)) (pgs_cons (pg_name (i := 5) sc_f_law.nd rfl (Or.inl rfl)) (pgs_cons (pg_name (i := 6) sc_f_law.nd rfl (Or.inl rfl)) pgs_nil)))))
 (pss_cons (ps_set (i := 7) sc_f_law.nd rfl (Or.inl rfl) (pe_callTy call_tuple_of (by rfl) G.n_tuple (by decide +kernel) (pa_cons (pe_lc (own := [("_law_cell", 8)]) (g := (gName 8)) (tt := tYes) rfl sc_f_law.nd (pi_tup (pv 4)) (blkOk_by (own := [("_law_cell", 8)]) (N := n_f_law) (sc := defScope s_f_law) (by decide +kernel)) (fun _ _ _ _ _ => (pg_name (i := 8) sc_f_law.nd rfl (Or.inl rfl))) (fun _ _ _ _ _ => pts_nil) (fun _ _ _ _ _ => (pe_c c_law_next hr (by omega) (by rfl) (pa_cons (pv 1) (pa_cons pe_int pa_nil))))) pa_nil)))
 (pss_cons (ps_set (i := 9) sc_f_law.nd rfl (Or.inl rfl) (pe_mk c_Watched hr (by omega) (by rfl) (pa_cons (pv 3) pa_nil)))
 (pss_cons (ps_for PassesOwn.never rfl (pi_range1 rfl G.n_range (pa_cons (pe_callB call_len_seq (by rfl) G.n_len PySem.boot_len (pa_cons (pv 4) pa_nil)) pa_nil)) (pg_name (i := 8) sc_f_law.nd rfl (Or.inl rfl)) (pss_one (ps_expr (pe_mt c_Watched_put hr (by omega) (pv 9) (pa_cons (pv 8) (pa_cons (pe_ix ix_tup (pv 7) (pv 8) (fun _ _ => rfl)) pa_nil))))))
 (pss_cons (ps_set (i := 10) sc_f_law.nd rfl (Or.inl rfl) (pe_c c_law_next hr (by omega) (by rfl) (pa_cons (pv 1) (pa_cons pe_int pa_nil))))
 (pss_cons (ps_if (pt_not (pt_val (pe_mt0 c_Watched_is_over hr (by omega) (pv 9)))) (pss_one (ps_expr (pe_mt c_Watched_go hr (by omega) (pv 9) (pa_cons (pv 10) pa_nil)))) pss_nil)
 (pss_cons (ps_if (pt_cmpR (op_neD hr.units) (pe_slice sl_tupA (pe_c c_plain hr (by omega) (by rfl) (pa_cons (pe_tup (pa_cons (pv 7) (pa_cons (pv 5) (pa_cons (pv 6) pa_nil)))) (pa_cons (pv 10) pa_nil))) po_none (po_some pe_int)) (pe_tup (pa_cons (pe_mt0 c_Watched_said hr (by omega) (pv 9)) (pa_cons (pe_mt0 c_Watched_cells hr (by omega) (pv 9)) (pa_cons (pe_mt0 c_Watched_is_over hr (by omega) (pv 9)) pa_nil)))) (nomark _)) (pss_one (ps_ret pe_bl)) pss_nil)
 (pss_cons (ps_set (i := 9) sc_f_law.nd rfl (Or.inl rfl) (pe_mk c_Watched hr (by omega) (by rfl) (pa_cons (pv 3) pa_nil)))
 (pss_cons (ps_set (i := 10) sc_f_law.nd rfl (Or.inl rfl) (pe_c c_law_next hr (by omega) (by rfl) (pa_cons (pv 1) (pa_cons pe_int pa_nil))))
 (pss_cons (ps_if (pt_not (pt_val (pe_mt0 c_Watched_is_over hr (by omega) (pv 9)))) (pss_one (ps_expr (pe_mt c_Watched_go hr (by omega) (pv 9) (pa_cons (pv 10) pa_nil)))) pss_nil)
 (pss_cons (ps_set (i := 11) sc_f_law.nd rfl (Or.inl rfl) (pe_c c_law_names hr (by omega) (by rfl) (pa_cons (pv 9) (pa_cons (pe_callB call_len_seq (by rfl) G.n_len PySem.boot_len (pa_cons (pv 6) pa_nil)) pa_nil))))
 (pss_cons (ps_for PassesOwn.never rfl (pi_range1 rfl G.n_range (pa_cons (pe_callB call_len_seq (by rfl) G.n_len PySem.boot_len (pa_cons (pv 6) pa_nil)) pa_nil)) (pg_name (i := 12) sc_f_law.nd rfl (Or.inl rfl)) (pss_one (ps_for PassesOwn.never rfl (pi_range1 rfl G.n_range (pa_cons (pe_callB call_len_seq (by rfl) G.n_len PySem.boot_len (pa_cons (pe_ix ix_list (pv 11) (pv 12) (fun _ _ => rfl)) pa_nil)) pa_nil)) (pg_name (i := 13) sc_f_law.nd rfl (Or.inl rfl)) (pss_one (ps_for PassesOwn.never rfl (pi_range1 rfl G.n_range (pa_cons (pe_callB call_len_seq (by rfl) G.n_len PySem.boot_len (pa_cons (pe_ix ix_list (pe_ix ix_list (pv 11) (pv 12) (fun _ _ => rfl)) (pv 13) (fun _ _ => rfl)) pa_nil)) pa_nil)) (pg_name (i := 14) sc_f_law.nd rfl (Or.inl rfl)) (pss_cons (ps_set (i := 15) sc_f_law.nd rfl (Or.inl rfl) (pe_c c_law_next hr (by omega) (by rfl) (pa_cons (pv 1) (pa_cons pe_int pa_nil))))
 (pss_cons (ps_expr (pe_mt c_Watched_change hr (by omega) (pv 9) (pa_cons (pv 12) (pa_cons (pv 13) (pa_cons (pv 14) (pa_cons (pv 15) pa_nil))))))
 (pss_cons (ps_setLc (i := 16) (own := [("_law_frames", 18)]) (g := (gName 18)) (tt := tYes) rfl sc_f_law.nd rfl rfl (sw_true rfl rfl rfl (by decide +kernel)) (pi_list (pv 11)) (blkOk_by (own := [("_law_frames", 18)]) (N := n_f_law) (sc := defScope s_f_law) (by decide +kernel)) (fun _ _ _ _ _ => (pg_name (i := 18) sc_f_law.nd rfl (Or.inl rfl))) (fun _ _ _ _ _ => pts_nil) (fun _ _ _ _ _ => (pe_lc (own := [("_law_names_here", 17)]) (g := (gName 17)) (tt := tYes) rfl sc_f_law.nd (pi_list (pv 18)) (blkOk_by (own := [("_law_names_here", 17)]) (N := n_f_law) (by kernel_rfl)) (fun _ _ _ _ _ => (pg_name (i := 17) sc_f_law.nd rfl (Or.inl rfl))) (fun _ _ _ _ _ => pts_nil) (fun _ _ _ _ _ => (pe_callTy call_list_of (by rfl) G.n_list (by decide +kernel) (pa_cons (pv 17) pa_nil))))))
 (pss_cons (ps_asg (pv 15) (pg_sub (pe_ix ix_list (pe_ix ix_list (pv 16) (pv 12) (fun _ _ => rfl)) (pv 13) (fun _ _ => rfl)) (pv 14) set_list))
 (pss_cons (ps_if (pt_cmpR (op_neD hr.units) (pe_c c_law_names hr (by omega) (by rfl) (pa_cons (pv 9) (pa_cons (pe_callB call_len_seq (by rfl) G.n_len PySem.boot_len (pa_cons (pv 6) pa_nil)) pa_nil))) (pv 16) (nomark _)) (pss_one (ps_ret pe_bl)) pss_nil)
 (pss_one (ps_expr (pe_mt c_Watched_change hr (by omega) (pv 9) (pa_cons (pv 12) (pa_cons (pv 13) (pa_cons (pv 14) (pa_cons (pe_ix ix_list (pe_ix ix_list (pe_ix ix_list (pv 11) (pv 12) (fun _ _ => rfl)) (pv 13) (fun _ _ => rfl)) (pv 14) (fun _ _ => rfl)) pa_nil)))))))))))))))))
 (pss_cons (ps_if (pt_not (pt_val (pe_mt0 c_Watched_is_over hr (by omega) (pv 9)))) (pss_one (ps_expr (pe_mt c_Watched_go hr (by omega) (pv 9) (pa_cons pe_int pa_nil)))) pss_nil)
 (pss_cons (ps_set (i := 19) sc_f_law.nd rfl (Or.inl rfl) (pe_c c_plain hr (by omega) (by rfl) (pa_cons (pv 3) (pa_cons pe_int pa_nil))))
 (pss_one (ps_if (PW.pt (pw_or (pt_cmpR (op_neD hr.units) (pe_mt0 c_Watched_said hr (by omega) (pv 9)) (pe_slice sl_list (pe_ix ix_tup (pv 19) pe_int (fun _ _ => rfl)) po_none (po_some (pe_callB call_len_seq (by rfl) G.n_len PySem.boot_len (pa_cons (pe_mt0 c_Watched_said hr (by omega) (pv 9)) pa_nil)))) (nomark _)) (pw_or1 (PW.pt (pw_and (pt_val (pe_mt0 c_Watched_is_over hr (by omega) (pv 9))) (pw_and1 (pt_cmpR (op_neD hr.units) (pe_mt0 c_Watched_cells hr (by omega) (pv 9)) (pe_ix ix_tup (pv 19) pe_int (fun _ _ => rfl)) (nomark _)))))))) (pss_one (ps_ret pe_bl)) pss_nil))))))))))))))))))
 (pss_one (ps_ret pe_bl))))
end SD
set_option Elab.async false
set_option linter.all false
set_option maxRecDepth 100000
set_option maxHeartbeats 4000000
namespace SD
open PySem PySem.Spec PyProof.Rows L2
open C8 (Cal Met Mak pe_c pe_mk pe_mt pe_mt0 pe_gc)
open Hd
theorem cal_f_is_number {P : Program} {w : World} {K : PySem.W.Frag} {mg : Str → Option Value} {base : Heap} {j : Nat} (Fc : Fcts K) (T : Tb K w) (Tw' : Tw K) (G : Gx K mg)  {f : Addr} {fd : FuncData} (F : FunD K "is_number" "is_number" (defArgs s_f_is_number) (defBody s_f_is_number) (defScope s_f_is_number) [] [] f fd) (m : mg "is_number" = some (.ref f)) : Cal P w K mg base (j + 1) "is_number" (sp_is_number K w) [] :=
  ⟨f, fd, ["thing"], [], fnD F sc_f_is_number (fun vs H Q E h => by obtain ⟨_, rfl, _⟩ := h; rfl) (fun cdv A outer s H vs Q E hr => der_f_is_number Fc G  hr) (fun vs H Q E h => pu_f_is_number  vs H Q E h), m, F.kp, F.bindsN fun _ _ _ _ _ _ us hl => match us, hl with | [_], _ => rfl, .nil⟩
theorem mak_m_Looker_init {P : Program} {w : World} {K : PySem.W.Frag} {mg : Str → Option Value} {base : Heap} {j : Nat} (Fc : Fcts K) (T : Tb K w) (Tw' : Tw K) (G : Gx K mg)  {f : Addr} {fd : FuncData} (F : FunD K "__init__" "Looker.__init__" (defArgs s_m_Looker_init) (defBody s_m_Looker_init) (defScope s_m_Looker_init) [] [] f fd) (k : Mk K (He.ga K "Looker") f) (m : mg "Looker" = some (.ref (He.ga K "Looker"))) : Mak P w K mg base (j + 1) "Looker" (He.ga K "Looker") (sp_Looker_init K w) [] :=
  ⟨f, fd, ["self", "many", "params"], [], k, fnD F sc_m_Looker_init (fun vs H Q E h => by obtain ⟨_, _, _, _, _, rfl, _⟩ := h; rfl) (fun cdv A outer s H vs Q E hr => der_m_Looker_init Fc G  hr) (fun vs H Q E h => pu_m_Looker_init Fc vs H Q E h), m, F.bindsN fun _ _ _ _ _ _ us hl => match us, hl with | [_, _, _], _ => rfl, .nil⟩
theorem met_m_Looker_begin {P : Program} {w : World} {K : PySem.W.Frag} {mg : Str → Option Value} {base : Heap} {j : Nat} (Fc : Fcts K) (T : Tb K w) (Tw' : Tw K) (G : Gx K mg) (c_is_number : Cal P w K mg base j "is_number" (sp_is_number K w) []) (c_Looker_bounds : Met P w K mg base j (He.ga K "Looker") "bounds" (sp_Looker_bounds K w) []) {f : Addr} {fd : FuncData} (F : FunD K "begin" "Looker.begin" (defArgs s_m_Looker_begin) (defBody s_m_Looker_begin) (defScope s_m_Looker_begin) [] [] f fd) (k : Meth K (He.ga K "Looker") "begin" f) : Met P w K mg base (j + 1) (He.ga K "Looker") "begin" (sp_Looker_begin K w) [] :=
  ⟨f, fd, ["self", "thing", "is_deed", "deep"], [], Fc.clLooker, k, fnD F sc_m_Looker_begin (fun vs H Q E h => by obtain ⟨_, _, _, _, _, _, _, _, _, _, _, _, _, _, _, rfl, _⟩ := h; rfl) (fun cdv A outer s H vs Q E hr => der_m_Looker_begin Fc G c_is_number c_Looker_bounds hr) (fun vs H Q E h => pu_m_Looker_begin T vs H Q E h), F.bindsN fun _ _ _ _ _ _ us hl => match us, hl with | [_, _, _, _], _ => rfl, .nil⟩
theorem met_m_Looker_bounds {P : Program} {w : World} {K : PySem.W.Frag} {mg : Str → Option Value} {base : Heap} {j : Nat} (Fc : Fcts K) (T : Tb K w) (Tw' : Tw K) (G : Gx K mg)  {f : Addr} {fd : FuncData} (F : FunD K "bounds" "Looker.bounds" (defArgs s_m_Looker_bounds) (defBody s_m_Looker_bounds) (defScope s_m_Looker_bounds) [] [] f fd) (k : Meth K (He.ga K "Looker") "bounds" f) : Met P w K mg base (j + 1) (He.ga K "Looker") "bounds" (sp_Looker_bounds K w) [] :=
  ⟨f, fd, ["self", "kind", "part", "thing", "at"], [], Fc.clLooker, k, fnD F sc_m_Looker_bounds (fun vs H Q E h => by obtain ⟨_, _, _, _, _, _, _, _, _, _, _, _, _, _, rfl, _⟩ := h; rfl) (fun cdv A outer s H vs Q E hr => der_m_Looker_bounds Fc G  hr) (fun vs H Q E h => pu_m_Looker_bounds  vs H Q E h), F.bindsN fun _ _ _ _ _ _ us hl => match us, hl with | [_, _, _, _, _], _ => rfl, .nil⟩
theorem met_m_Looker_part {P : Program} {w : World} {K : PySem.W.Frag} {mg : Str → Option Value} {base : Heap} {j : Nat} (n : Nat) (Fc : Fcts K) (T : Tb K w) (Tw' : Tw K) (G : Gx K mg) (c_Looker_begin : Met P w K mg base j (He.ga K "Looker") "begin" (sp_Looker_begin K w) []) (c_Looker_part : Met P w K mg base j (He.ga K "Looker") "part" (sp_Looker_part n K w) []) {f : Addr} {fd : FuncData} (F : FunD K "part" "Looker.part" (defArgs s_m_Looker_part) (defBody s_m_Looker_part) (defScope s_m_Looker_part) [] [] f fd) (k : Meth K (He.ga K "Looker") "part" f) : Met P w K mg base (j + 1) (He.ga K "Looker") "part" (sp_Looker_part (n + 1) K w) [] :=
  ⟨f, fd, ["self", "part", "deep"], [], Fc.clLooker, k, fnD F sc_m_Looker_part (fun vs H Q E h => by obtain ⟨_, _, _, _, _, _, _, _, _, _, _, rfl, _⟩ := h; rfl) (fun cdv A outer s H vs Q E hr => der_m_Looker_part n Fc G c_Looker_begin c_Looker_part hr) (fun vs H Q E h => pu_m_Looker_part n vs H Q E h), F.bindsN fun _ _ _ _ _ _ us hl => match us, hl with | [_, _, _], _ => rfl, .nil⟩
theorem met_m_Looker_body {P : Program} {w : World} {K : PySem.W.Frag} {mg : Str → Option Value} {base : Heap} {j : Nat} (n : Nat) (Fc : Fcts K) (T : Tb K w) (Tw' : Tw K) (G : Gx K mg) (c_Looker_begin : Met P w K mg base j (He.ga K "Looker") "begin" (sp_Looker_begin K w) []) (c_Looker_part : Met P w K mg base j (He.ga K "Looker") "part" (sp_Looker_part n K w) []) (c_Looker_body : Met P w K mg base j (He.ga K "Looker") "body" (sp_Looker_body n K w) []) {f : Addr} {fd : FuncData} (F : FunD K "body" "Looker.body" (defArgs s_m_Looker_body) (defBody s_m_Looker_body) (defScope s_m_Looker_body) [] [] f fd) (k : Meth K (He.ga K "Looker") "body" f) : Met P w K mg base (j + 1) (He.ga K "Looker") "body" (sp_Looker_body (n + 1) K w) [] :=
  ⟨f, fd, ["self", "body", "deep"], [], Fc.clLooker, k, fnD F sc_m_Looker_body (fun vs H Q E h => by obtain ⟨_, _, _, _, _, _, _, _, _, _, _, _, rfl, _⟩ := h; rfl) (fun cdv A outer s H vs Q E hr => der_m_Looker_body n Fc G c_Looker_begin c_Looker_part c_Looker_body hr) (fun vs H Q E h => pu_m_Looker_body n vs H Q E h), F.bindsN fun _ _ _ _ _ _ us hl => match us, hl with | [_, _, _], _ => rfl, .nil⟩
theorem cal_f_need_head {P : Program} {w : World} {K : PySem.W.Frag} {mg : Str → Option Value} {base : Heap} {j : Nat} (Fc : Fcts K) (T : Tb K w) (Tw' : Tw K) (G : Gx K mg)  {f : Addr} {fd : FuncData} (F : FunD K "need_head" "need_head" (defArgs s_f_need_head) (defBody s_f_need_head) (defScope s_f_need_head) [] [] f fd) (m : mg "need_head" = some (.ref f)) : Cal P w K mg base (j + 1) "need_head" (sp_need_head K w) [] :=
  ⟨f, fd, ["program"], [], fnD F sc_f_need_head (fun vs H Q E h => by obtain ⟨_, _, rfl, _⟩ := h; rfl) (fun cdv A outer s H vs Q E hr => der_f_need_head Fc G  hr) (fun vs H Q E h => pu_f_need_head  vs H Q E h), m, F.kp, F.bindsN fun _ _ _ _ _ _ us hl => match us, hl with | [_], _ => rfl, .nil⟩
theorem cal_f_need_program {P : Program} {w : World} {K : PySem.W.Frag} {mg : Str → Option Value} {base : Heap} {j : Nat} (Fc : Fcts K) (T : Tb K w) (Tw' : Tw K) (G : Gx K mg) (c_need_head : Cal P w K mg base j "need_head" (sp_need_head K w) []) {jm_Looker : Nat} (hj_Looker : jm_Looker + 1 ≤ j) (c_Looker : Mak P w K mg base jm_Looker "Looker" (He.ga K "Looker") (sp_Looker_init K w) []) (c_Looker_body : Met P w K mg base j (He.ga K "Looker") "body" (sp_Looker_body 9 K w) []) {f : Addr} {fd : FuncData} (F : FunD K "need_program" "need_program" (defArgs s_f_need_program) (defBody s_f_need_program) (defScope s_f_need_program) [] [] f fd) (m : mg "need_program" = some (.ref f)) : Cal P w K mg base (j + 1) "need_program" (sp_need_program K w) [] :=
  ⟨f, fd, ["program"], [], fnD F sc_f_need_program (fun vs H Q E h => by obtain ⟨_, _, _, rfl, _⟩ := h; rfl) (fun cdv A outer s H vs Q E hr => der_f_need_program Fc G c_need_head hj_Looker c_Looker c_Looker_body hr) (fun vs H Q E h => pu_f_need_program  vs H Q E h), m, F.kp, F.bindsN fun _ _ _ _ _ _ us hl => match us, hl with | [_], _ => rfl, .nil⟩
theorem cal_f_is_wish {P : Program} {w : World} {K : PySem.W.Frag} {mg : Str → Option Value} {base : Heap} {j : Nat} (Fc : Fcts K) (T : Tb K w) (Tw' : Tw K) (G : Gx K mg) {jm_Looker : Nat} (hj_Looker : jm_Looker + 1 ≤ j) (c_Looker : Mak P w K mg base jm_Looker "Looker" (He.ga K "Looker") (sp_Looker_init K w) []) (c_Looker_part : Met P w K mg base j (He.ga K "Looker") "part" (sp_Looker_part 8 K w) []) {f : Addr} {fd : FuncData} (F : FunD K "is_wish" "is_wish" (defArgs s_f_is_wish) (defBody s_f_is_wish) (defScope s_f_is_wish) [] [] f fd) (m : mg "is_wish" = some (.ref f)) : Cal P w K mg base (j + 1) "is_wish" (sp_is_wish K w) [] :=
  ⟨f, fd, ["part", "program", "fun"], [], fnD F sc_f_is_wish (fun vs H Q E h => by obtain ⟨_, _, _, _, _, _, _, rfl, _⟩ := h; rfl) (fun cdv A outer s H vs Q E hr => der_f_is_wish Fc G hj_Looker c_Looker c_Looker_part hr) (fun vs H Q E h => pu_f_is_wish  vs H Q E h), m, F.kp, F.bindsN fun _ _ _ _ _ _ us hl => match us, hl with | [_, _, _], _ => rfl, .nil⟩
theorem mak_m_Numberer_init {P : Program} {w : World} {K : PySem.W.Frag} {mg : Str → Option Value} {base : Heap} {j : Nat} (Fc : Fcts K) (T : Tb K w) (Tw' : Tw K) (G : Gx K mg)  {f : Addr} {fd : FuncData} (F : FunD K "__init__" "Numberer.__init__" (defArgs s_m_Numberer_init) (defBody s_m_Numberer_init) (defScope s_m_Numberer_init) [] [] f fd) (k : Mk K (He.ga K "Numberer") f) (m : mg "Numberer" = some (.ref (He.ga K "Numberer"))) : Mak P w K mg base (j + 1) "Numberer" (He.ga K "Numberer") (sp_Numberer_init K w) [] :=
  ⟨f, fd, ["self"], [], k, fnD F sc_m_Numberer_init (fun vs H Q E h => by obtain ⟨_, _, _, rfl, _⟩ := h; rfl) (fun cdv A outer s H vs Q E hr => der_m_Numberer_init Fc G  hr) (fun vs H Q E h => pu_m_Numberer_init Fc vs H Q E h), m, F.bindsN fun _ _ _ _ _ _ us hl => match us, hl with | [_], _ => rfl, .nil⟩
theorem met_m_Numberer_body {P : Program} {w : World} {K : PySem.W.Frag} {mg : Str → Option Value} {base : Heap} {j : Nat} (n : Nat) (Fc : Fcts K) (T : Tb K w) (Tw' : Tw K) (G : Gx K mg) (c_Numberer_body : Met P w K mg base j (He.ga K "Numberer") "body" (sp_Numberer_body n K w) []) {f : Addr} {fd : FuncData} (F : FunD K "body" "Numberer.body" (defArgs s_m_Numberer_body) (defBody s_m_Numberer_body) (defScope s_m_Numberer_body) [] [] f fd) (k : Meth K (He.ga K "Numberer") "body" f) : Met P w K mg base (j + 1) (He.ga K "Numberer") "body" (sp_Numberer_body (n + 1) K w) [] :=
  ⟨f, fd, ["self", "body", "fun"], [], Fc.clNumberer, k, fnD F sc_m_Numberer_body (fun vs H Q E h => by obtain ⟨_, _, _, _, _, _, _, _, _, _, _, _, _, rfl, _⟩ := h; rfl) (fun cdv A outer s H vs Q E hr => der_m_Numberer_body n Fc G c_Numberer_body hr) (fun vs H Q E h => pu_m_Numberer_body T n vs H Q E h), F.bindsN fun _ _ _ _ _ _ us hl => match us, hl with | [_, _, _], _ => rfl, .nil⟩
theorem cal_f_numbered {P : Program} {w : World} {K : PySem.W.Frag} {mg : Str → Option Value} {base : Heap} {j : Nat} (Fc : Fcts K) (T : Tb K w) (Tw' : Tw K) (G : Gx K mg) {jm_Numberer : Nat} (hj_Numberer : jm_Numberer + 1 ≤ j) (c_Numberer : Mak P w K mg base jm_Numberer "Numberer" (He.ga K "Numberer") (sp_Numberer_init K w) []) (c_Numberer_body : Met P w K mg base j (He.ga K "Numberer") "body" (sp_Numberer_body 9 K w) []) {f : Addr} {fd : FuncData} (F : FunD K "numbered" "numbered" (defArgs s_f_numbered) (defBody s_f_numbered) (defScope s_f_numbered) [] [] f fd) (m : mg "numbered" = some (.ref f)) : Cal P w K mg base (j + 1) "numbered" (sp_numbered K w) [] :=
  ⟨f, fd, ["program"], [], fnD F sc_f_numbered (fun vs H Q E h => by obtain ⟨_, _, _, rfl, _⟩ := h; rfl) (fun cdv A outer s H vs Q E hr => der_f_numbered Fc G hj_Numberer c_Numberer c_Numberer_body hr) (fun vs H Q E h => pu_f_numbered  vs H Q E h), m, F.kp, F.bindsN fun _ _ _ _ _ _ us hl => match us, hl with | [_], _ => rfl, .nil⟩
theorem cal_f_reckoned {P : Program} {w : World} {K : PySem.W.Frag} {mg : Str → Option Value} {base : Heap} {j : Nat} (Fc : Fcts K) (T : Tb K w) (Tw' : Tw K) (G : Gx K mg)  {f : Addr} {fd : FuncData} (F : FunD K "reckoned" "reckoned" (defArgs s_f_reckoned) (defBody s_f_reckoned) (defScope s_f_reckoned) [] [] f fd) (m : mg "reckoned" = some (.ref f)) : Cal P w K mg base (j + 1) "reckoned" (sp_reckoned K w) [] :=
  ⟨f, fd, ["word", "one", "other"], [], fnD F sc_f_reckoned (fun vs H Q E h => by obtain ⟨_, _, _, rfl, _⟩ := h; rfl) (fun cdv A outer s H vs Q E hr => der_f_reckoned Fc G  hr) (fun vs H Q E h => pu_f_reckoned  vs H Q E h), m, F.kp, F.bindsN fun _ _ _ _ _ _ us hl => match us, hl with | [_, _, _], _ => rfl, .nil⟩
theorem cal_f_worth {P : Program} {w : World} {K : PySem.W.Frag} {mg : Str → Option Value} {base : Heap} {j : Nat} (n : Nat) (Fc : Fcts K) (T : Tb K w) (Tw' : Tw K) (G : Gx K mg) (c_worth : Cal P w K mg base j "worth" (sp_worth n K w) []) (c_reckoned : Cal P w K mg base j "reckoned" (sp_reckoned K w) []) {f : Addr} {fd : FuncData} (F : FunD K "worth" "worth" (defArgs s_f_worth) (defBody s_f_worth) (defScope s_f_worth) [] [] f fd) (m : mg "worth" = some (.ref f)) : Cal P w K mg base (j + 1) "worth" (sp_worth (n + 1) K w) [] :=
  ⟨f, fd, ["part", "names", "cells"], [], fnD F sc_f_worth (fun vs H Q E h => by obtain ⟨_, _, _, _, _, _, rfl, _⟩ := h; rfl) (fun cdv A outer s H vs Q E hr => der_f_worth n Fc G c_worth c_reckoned hr) (fun vs H Q E h => pu_f_worth n vs H Q E h), m, F.kp, F.bindsN fun _ _ _ _ _ _ us hl => match us, hl with | [_, _, _], _ => rfl, .nil⟩
theorem mak_m_Frame_init {P : Program} {w : World} {K : PySem.W.Frag} {mg : Str → Option Value} {base : Heap} {j : Nat} (Fc : Fcts K) (T : Tb K w) (Tw' : Tw K) (G : Gx K mg)  {f : Addr} {fd : FuncData} (F : FunD K "__init__" "Frame.__init__" (defArgs s_m_Frame_init) (defBody s_m_Frame_init) (defScope s_m_Frame_init) [] [] f fd) (k : Mk K (He.ga K "Frame") f) (m : mg "Frame" = some (.ref (He.ga K "Frame"))) : Mak P w K mg base (j + 1) "Frame" (He.ga K "Frame") (sp_Frame_init K w) [] :=
  ⟨f, fd, ["self", "fun", "names", "body"], [], k, fnD F sc_m_Frame_init (fun vs H Q E h => by obtain ⟨_, _, _, _, _, _, rfl, _⟩ := h; rfl) (fun cdv A outer s H vs Q E hr => der_m_Frame_init Fc G  hr) (fun vs H Q E h => pu_m_Frame_init Fc vs H Q E h), m, F.bindsN fun _ _ _ _ _ _ us hl => match us, hl with | [_, _, _, _], _ => rfl, .nil⟩
theorem mak_m_Machine_init {P : Program} {w : World} {K : PySem.W.Frag} {mg : Str → Option Value} {base : Heap} {j : Nat} (Fc : Fcts K) (T : Tb K w) (Tw' : Tw K) (G : Gx K mg) (c_numbered : Cal P w K mg base j "numbered" (sp_numbered K w) []) (c_Machine_frame : Met P w K mg base j (He.ga K "Machine") "frame" (sp_Machine_frame K w) []) (c_Machine_settle : Met P w K mg base j (He.ga K "Machine") "settle" (sp_Machine_settle K w) []) (c_Machine_seek : Met P w K mg base j (He.ga K "Machine") "seek" (sp_Machine_seek K w) []) {f : Addr} {fd : FuncData} (F : FunD K "__init__" "Machine.__init__" (defArgs s_m_Machine_init) (defBody s_m_Machine_init) (defScope s_m_Machine_init) [] [] f fd) (k : Mk K (He.ga K "Machine") f) (m : mg "Machine" = some (.ref (He.ga K "Machine"))) : Mak P w K mg base (j + 1) "Machine" (He.ga K "Machine") (sp_Machine_init K w) [] :=
  ⟨f, fd, ["self", "program"], [], k, fnD F sc_m_Machine_init (fun vs H Q E h => by obtain ⟨_, _, _, _, _, rfl, _⟩ := h; rfl) (fun cdv A outer s H vs Q E hr => der_m_Machine_init Fc G c_numbered c_Machine_frame c_Machine_settle c_Machine_seek hr) (fun vs H Q E h => pu_m_Machine_init Fc vs H Q E h), m, F.bindsN fun _ _ _ _ _ _ us hl => match us, hl with | [_, _], _ => rfl, .nil⟩
theorem met_m_Machine_frame {P : Program} {w : World} {K : PySem.W.Frag} {mg : Str → Option Value} {base : Heap} {j : Nat} (Fc : Fcts K) (T : Tb K w) (Tw' : Tw K) (G : Gx K mg) {jm_Frame : Nat} (hj_Frame : jm_Frame + 1 ≤ j) (c_Frame : Mak P w K mg base jm_Frame "Frame" (He.ga K "Frame") (sp_Frame_init K w) []) {f : Addr} {fd : FuncData} (F : FunD K "frame" "Machine.frame" (defArgs s_m_Machine_frame) (defBody s_m_Machine_frame) (defScope s_m_Machine_frame) [] [] f fd) (k : Meth K (He.ga K "Machine") "frame" f) : Met P w K mg base (j + 1) (He.ga K "Machine") "frame" (sp_Machine_frame K w) [] :=
  ⟨f, fd, ["self", "fun", "worths"], [], Fc.clMachine, k, fnD F sc_m_Machine_frame (fun vs H Q E h => by obtain ⟨_, _, _, _, _, _, _, _, _, _, _, _, _, _, rfl, _⟩ := h; rfl) (fun cdv A outer s H vs Q E hr => der_m_Machine_frame Fc G hj_Frame c_Frame hr) (fun vs H Q E h => pu_m_Machine_frame Fc vs H Q E h), F.bindsN fun _ _ _ _ _ _ us hl => match us, hl with | [_, _, _], _ => rfl, .nil⟩
theorem met_m_Machine_settle {P : Program} {w : World} {K : PySem.W.Frag} {mg : Str → Option Value} {base : Heap} {j : Nat} (Fc : Fcts K) (T : Tb K w) (Tw' : Tw K) (G : Gx K mg) (c_Machine_back : Met P w K mg base j (He.ga K "Machine") "back" (sp_Machine_back K w) []) (c_Machine_unfold : Met P w K mg base j (He.ga K "Machine") "unfold" (sp_Machine_unfold K w) []) {f : Addr} {fd : FuncData} (F : FunD K "settle" "Machine.settle" (defArgs s_m_Machine_settle) (defBody s_m_Machine_settle) (defScope s_m_Machine_settle) [] [] f fd) (k : Meth K (He.ga K "Machine") "settle" f) : Met P w K mg base (j + 1) (He.ga K "Machine") "settle" (sp_Machine_settle K w) [] :=
  ⟨f, fd, ["self", "me"], [], Fc.clMachine, k, fnD F sc_m_Machine_settle (fun vs H Q E h => by obtain ⟨_, _, _, _, _, _, _, _, _, _, _, _, _, _, _, rfl, _⟩ := h; rfl) (fun cdv A outer s H vs Q E hr => der_m_Machine_settle Fc G c_Machine_back c_Machine_unfold hr) (fun vs H Q E h => pu_m_Machine_settle  vs H Q E h), F.bindsN fun _ _ _ _ _ _ us hl => match us, hl with | [_, _], _ => rfl, .nil⟩
theorem met_m_Machine_unfold {P : Program} {w : World} {K : PySem.W.Frag} {mg : Str → Option Value} {base : Heap} {j : Nat} (Fc : Fcts K) (T : Tb K w) (Tw' : Tw K) (G : Gx K mg)  {f : Addr} {fd : FuncData} (F : FunD K "unfold" "Machine.unfold" (defArgs s_m_Machine_unfold) (defBody s_m_Machine_unfold) (defScope s_m_Machine_unfold) [] [] f fd) (k : Meth K (He.ga K "Machine") "unfold" f) : Met P w K mg base (j + 1) (He.ga K "Machine") "unfold" (sp_Machine_unfold K w) [] :=
  ⟨f, fd, ["self", "frame", "task"], [], Fc.clMachine, k, fnD F sc_m_Machine_unfold (fun vs H Q E h => by obtain ⟨_, _, _, _, _, _, rfl, _⟩ := h; rfl) (fun cdv A outer s H vs Q E hr => der_m_Machine_unfold Fc G  hr) (fun vs H Q E h => pu_m_Machine_unfold  vs H Q E h), F.bindsN fun _ _ _ _ _ _ us hl => match us, hl with | [_, _, _], _ => rfl, .nil⟩
theorem met_m_Machine_back {P : Program} {w : World} {K : PySem.W.Frag} {mg : Str → Option Value} {base : Heap} {j : Nat} (Fc : Fcts K) (T : Tb K w) (Tw' : Tw K) (G : Gx K mg)  {f : Addr} {fd : FuncData} (F : FunD K "back" "Machine.back" (defArgs s_m_Machine_back) (defBody s_m_Machine_back) (defScope s_m_Machine_back) [] [] f fd) (k : Meth K (He.ga K "Machine") "back" f) : Met P w K mg base (j + 1) (He.ga K "Machine") "back" (sp_Machine_back K w) [] :=
  ⟨f, fd, ["self", "frames", "number"], [], Fc.clMachine, k, fnD F sc_m_Machine_back (fun vs H Q E h => by obtain ⟨_, _, _, _, _, _, _, _, rfl, _⟩ := h; rfl) (fun cdv A outer s H vs Q E hr => der_m_Machine_back Fc G  hr) (fun vs H Q E h => pu_m_Machine_back  vs H Q E h), F.bindsN fun _ _ _ _ _ _ us hl => match us, hl with | [_, _, _], _ => rfl, .nil⟩
theorem met_m_Machine_seek {P : Program} {w : World} {K : PySem.W.Frag} {mg : Str → Option Value} {base : Heap} {j : Nat} (Fc : Fcts K) (T : Tb K w) (Tw' : Tw K) (G : Gx K mg)  {f : Addr} {fd : FuncData} (F : FunD K "seek" "Machine.seek" (defArgs s_m_Machine_seek) (defBody s_m_Machine_seek) (defScope s_m_Machine_seek) [] [] f fd) (k : Meth K (He.ga K "Machine") "seek" f) : Met P w K mg base (j + 1) (He.ga K "Machine") "seek" (sp_Machine_seek K w) [] :=
  ⟨f, fd, ["self"], [], Fc.clMachine, k, fnD F sc_m_Machine_seek (fun vs H Q E h => by obtain ⟨_, _, _, rfl, _⟩ := h; rfl) (fun cdv A outer s H vs Q E hr => der_m_Machine_seek Fc G  hr) (fun vs H Q E h => pu_m_Machine_seek  vs H Q E h), F.bindsN fun _ _ _ _ _ _ us hl => match us, hl with | [_], _ => rfl, .nil⟩
theorem met_m_Machine_is_over {P : Program} {w : World} {K : PySem.W.Frag} {mg : Str → Option Value} {base : Heap} {j : Nat} (Fc : Fcts K) (T : Tb K w) (Tw' : Tw K) (G : Gx K mg)  {f : Addr} {fd : FuncData} (F : FunD K "is_over" "Machine.is_over" (defArgs s_m_Machine_is_over) (defBody s_m_Machine_is_over) (defScope s_m_Machine_is_over) [] [] f fd) (k : Meth K (He.ga K "Machine") "is_over" f) : Met P w K mg base (j + 1) (He.ga K "Machine") "is_over" (sp_Machine_is_over K w) [] :=
  ⟨f, fd, ["self"], [], Fc.clMachine, k, fnD F sc_m_Machine_is_over (fun vs H Q E h => by obtain ⟨_, _, _, rfl, _⟩ := h; rfl) (fun cdv A outer s H vs Q E hr => der_m_Machine_is_over Fc G  hr) (fun vs H Q E h => pu_m_Machine_is_over  vs H Q E h), F.bindsN fun _ _ _ _ _ _ us hl => match us, hl with | [_], _ => rfl, .nil⟩
theorem met_m_Machine_next_place {P : Program} {w : World} {K : PySem.W.Frag} {mg : Str → Option Value} {base : Heap} {j : Nat} (Fc : Fcts K) (T : Tb K w) (Tw' : Tw K) (G : Gx K mg)  {f : Addr} {fd : FuncData} (F : FunD K "next_place" "Machine.next_place" (defArgs s_m_Machine_next_place) (defBody s_m_Machine_next_place) (defScope s_m_Machine_next_place) [] [] f fd) (k : Meth K (He.ga K "Machine") "next_place" f) : Met P w K mg base (j + 1) (He.ga K "Machine") "next_place" (sp_Machine_next_place K w) [] :=
  ⟨f, fd, ["self", "me"], [], Fc.clMachine, k, fnD F sc_m_Machine_next_place (fun vs H Q E h => by obtain ⟨_, _, _, _, _, _, _, _, rfl, _⟩ := h; rfl) (fun cdv A outer s H vs Q E hr => der_m_Machine_next_place Fc G  hr) (fun vs H Q E h => pu_m_Machine_next_place  vs H Q E h), F.bindsN fun _ _ _ _ _ _ us hl => match us, hl with | [_, _], _ => rfl, .nil⟩
theorem met_m_Machine_deed {P : Program} {w : World} {K : PySem.W.Frag} {mg : Str → Option Value} {base : Heap} {j : Nat} (Fc : Fcts K) (T : Tb K w) (Tw' : Tw K) (G : Gx K mg) (c_Machine_do : Met P w K mg base j (He.ga K "Machine") "do" (sp_Machine_do K w) []) (c_Machine_settle : Met P w K mg base j (He.ga K "Machine") "settle" (sp_Machine_settle K w) []) (c_Machine_seek : Met P w K mg base j (He.ga K "Machine") "seek" (sp_Machine_seek K w) []) {f : Addr} {fd : FuncData} (F : FunD K "deed" "Machine.deed" (defArgs s_m_Machine_deed) (defBody s_m_Machine_deed) (defScope s_m_Machine_deed) [] [] f fd) (k : Meth K (He.ga K "Machine") "deed" f) : Met P w K mg base (j + 1) (He.ga K "Machine") "deed" (sp_Machine_deed K w) [] :=
  ⟨f, fd, ["self"], [], Fc.clMachine, k, fnD F sc_m_Machine_deed (fun vs H Q E h => by obtain ⟨_, _, _, rfl, _⟩ := h; rfl) (fun cdv A outer s H vs Q E hr => der_m_Machine_deed Fc G c_Machine_do c_Machine_settle c_Machine_seek hr) (fun vs H Q E h => pu_m_Machine_deed  vs H Q E h), F.bindsN fun _ _ _ _ _ _ us hl => match us, hl with | [_], _ => rfl, .nil⟩
theorem met_m_Machine_do {P : Program} {w : World} {K : PySem.W.Frag} {mg : Str → Option Value} {base : Heap} {j : Nat} (Fc : Fcts K) (T : Tb K w) (Tw' : Tw K) (G : Gx K mg) (c_Machine_call : Met P w K mg base j (He.ga K "Machine") "call" (sp_Machine_call K w) []) (c_worth : Cal P w K mg base j "worth" (sp_worth 8 K w) []) (c_Machine_back : Met P w K mg base j (He.ga K "Machine") "back" (sp_Machine_back K w) []) {f : Addr} {fd : FuncData} (F : FunD K "do" "Machine.do" (defArgs s_m_Machine_do) (defBody s_m_Machine_do) (defScope s_m_Machine_do) [] [] f fd) (k : Meth K (He.ga K "Machine") "do" f) : Met P w K mg base (j + 1) (He.ga K "Machine") "do" (sp_Machine_do K w) [] :=
  ⟨f, fd, ["self", "me", "frame", "deed", "inner"], [], Fc.clMachine, k, fnD F sc_m_Machine_do (fun vs H Q E h => by obtain ⟨_, _, _, _, _, _, _, _, _, _, _, _, _, _, _, _, _, rfl, _⟩ := h; rfl) (fun cdv A outer s H vs Q E hr => der_m_Machine_do Fc G c_Machine_call c_worth c_Machine_back hr) (fun vs H Q E h => pu_m_Machine_do  vs H Q E h), F.bindsN fun _ _ _ _ _ _ us hl => match us, hl with | [_, _, _, _, _], _ => rfl, .nil⟩
theorem met_m_Machine_call {P : Program} {w : World} {K : PySem.W.Frag} {mg : Str → Option Value} {base : Heap} {j : Nat} (Fc : Fcts K) (T : Tb K w) (Tw' : Tw K) (G : Gx K mg) (c_worth : Cal P w K mg base j "worth" (sp_worth 8 K w) []) (c_Machine_frame : Met P w K mg base j (He.ga K "Machine") "frame" (sp_Machine_frame K w) []) {f : Addr} {fd : FuncData} (F : FunD K "call" "Machine.call" (defArgs s_m_Machine_call) (defBody s_m_Machine_call) (defScope s_m_Machine_call) [] [] f fd) (k : Meth K (He.ga K "Machine") "call" f) : Met P w K mg base (j + 1) (He.ga K "Machine") "call" (sp_Machine_call K w) [] :=
  ⟨f, fd, ["self", "me", "frame", "deed"], [], Fc.clMachine, k, fnD F sc_m_Machine_call (fun vs H Q E h => by obtain ⟨_, _, _, _, _, _, _, _, _, _, _, _, _, _, _, _, _, rfl, _⟩ := h; rfl) (fun cdv A outer s H vs Q E hr => der_m_Machine_call Fc G c_worth c_Machine_frame hr) (fun vs H Q E h => pu_m_Machine_call  vs H Q E h), F.bindsN fun _ _ _ _ _ _ us hl => match us, hl with | [_, _, _, _], _ => rfl, .nil⟩
theorem cal_f_need_count {P : Program} {w : World} {K : PySem.W.Frag} {mg : Str → Option Value} {base : Heap} {j : Nat} (Fc : Fcts K) (T : Tb K w) (Tw' : Tw K) (G : Gx K mg)  {f : Addr} {fd : FuncData} (F : FunD K "need_count" "need_count" (defArgs s_f_need_count) (defBody s_f_need_count) (defScope s_f_need_count) [] [] f fd) (m : mg "need_count" = some (.ref f)) : Cal P w K mg base (j + 1) "need_count" (sp_need_count K w) [] :=
  ⟨f, fd, ["many"], [], fnD F sc_f_need_count (fun vs H Q E h => by obtain ⟨_, rfl, _⟩ := h; rfl) (fun cdv A outer s H vs Q E hr => der_f_need_count Fc G  hr) (fun vs H Q E h => pu_f_need_count  vs H Q E h), m, F.kp, F.bindsN fun _ _ _ _ _ _ us hl => match us, hl with | [_], _ => rfl, .nil⟩
theorem cal_f_plain {P : Program} {w : World} {K : PySem.W.Frag} {mg : Str → Option Value} {base : Heap} {j : Nat} (Fc : Fcts K) (T : Tb K w) (Tw' : Tw K) (G : Gx K mg) (c_need_program : Cal P w K mg base j "need_program" (sp_need_program K w) []) (c_need_count : Cal P w K mg base j "need_count" (sp_need_count K w) []) {jm_Machine : Nat} (hj_Machine : jm_Machine + 1 ≤ j) (c_Machine : Mak P w K mg base jm_Machine "Machine" (He.ga K "Machine") (sp_Machine_init K w) []) (c_Machine_is_over : Met P w K mg base j (He.ga K "Machine") "is_over" (sp_Machine_is_over K w) []) (c_Machine_deed : Met P w K mg base j (He.ga K "Machine") "deed" (sp_Machine_deed K w) []) {f : Addr} {fd : FuncData} (F : FunD K "plain" "plain" (defArgs s_f_plain) (defBody s_f_plain) (defScope s_f_plain) [] [] f fd) (m : mg "plain" = some (.ref f)) : Cal P w K mg base (j + 1) "plain" (sp_plain K w) [] :=
  ⟨f, fd, ["program", "many"], [], fnD F sc_f_plain (fun vs H Q E h => by obtain ⟨_, _, _, _, rfl, _⟩ := h; rfl) (fun cdv A outer s H vs Q E hr => der_f_plain Fc G c_need_program c_need_count hj_Machine c_Machine c_Machine_is_over c_Machine_deed hr) (fun vs H Q E h => pu_f_plain  vs H Q E h), m, F.kp, F.bindsN fun _ _ _ _ _ _ us hl => match us, hl with | [_, _], _ => rfl, .nil⟩
theorem mak_m_Watched_init {P : Program} {w : World} {K : PySem.W.Frag} {mg : Str → Option Value} {base : Heap} {j : Nat} (Fc : Fcts K) (T : Tb K w) (Tw' : Tw K) (G : Gx K mg) (c_need_program : Cal P w K mg base j "need_program" (sp_need_program K w) []) (c_numbered : Cal P w K mg base j "numbered" (sp_numbered K w) []) {jm_Machine : Nat} (hj_Machine : jm_Machine + 1 ≤ j) (c_Machine : Mak P w K mg base jm_Machine "Machine" (He.ga K "Machine") (sp_Machine_init K w) []) {f : Addr} {fd : FuncData} (F : FunD K "__init__" "Watched.__init__" (defArgs s_m_Watched_init) (defBody s_m_Watched_init) (defScope s_m_Watched_init) [] [] f fd) (k : Mk K (He.ga K "Watched") f) (m : mg "Watched" = some (.ref (He.ga K "Watched"))) : Mak P w K mg base (j + 1) "Watched" (He.ga K "Watched") (sp_Watched_init K w) [] :=
  ⟨f, fd, ["self", "program"], [], k, fnD F sc_m_Watched_init (fun vs H Q E h => by obtain ⟨_, _, _, _, _, rfl, _⟩ := h; rfl) (fun cdv A outer s H vs Q E hr => der_m_Watched_init Fc G c_need_program c_numbered hj_Machine c_Machine hr) (fun vs H Q E h => pu_m_Watched_init Fc vs H Q E h), m, F.bindsN fun _ _ _ _ _ _ us hl => match us, hl with | [_, _], _ => rfl, .nil⟩
theorem met_m_Watched_need_hand {P : Program} {w : World} {K : PySem.W.Frag} {mg : Str → Option Value} {base : Heap} {j : Nat} (Fc : Fcts K) (T : Tb K w) (Tw' : Tw K) (G : Gx K mg) (c_is_number : Cal P w K mg base j "is_number" (sp_is_number K w) []) {f : Addr} {fd : FuncData} (F : FunD K "need_hand" "Watched.need_hand" (defArgs s_m_Watched_need_hand) (defBody s_m_Watched_need_hand) (defScope s_m_Watched_need_hand) [] [] f fd) (k : Meth K (He.ga K "Watched") "need_hand" f) : Met P w K mg base (j + 1) (He.ga K "Watched") "need_hand" (sp_Watched_need_hand K w) [] :=
  ⟨f, fd, ["self", "hand"], [], Fc.clWatched, k, fnD F sc_m_Watched_need_hand (fun vs H Q E h => by obtain ⟨_, _, _, _, rfl, _⟩ := h; rfl) (fun cdv A outer s H vs Q E hr => der_m_Watched_need_hand Fc G c_is_number hr) (fun vs H Q E h => pu_m_Watched_need_hand  vs H Q E h), F.bindsN fun _ _ _ _ _ _ us hl => match us, hl with | [_, _], _ => rfl, .nil⟩
theorem met_m_Watched_stop {P : Program} {w : World} {K : PySem.W.Frag} {mg : Str → Option Value} {base : Heap} {j : Nat} (Fc : Fcts K) (T : Tb K w) (Tw' : Tw K) (G : Gx K mg) (c_Watched_need_hand : Met P w K mg base j (He.ga K "Watched") "need_hand" (sp_Watched_need_hand K w) []) (c_is_wish : Cal P w K mg base j "is_wish" (sp_is_wish K w) []) {f : Addr} {fd : FuncData} (F : FunD K "stop" "Watched.stop" (defArgs s_m_Watched_stop) (defBody s_m_Watched_stop) (defScope s_m_Watched_stop) [] [] f fd) (k : Meth K (He.ga K "Watched") "stop" f) : Met P w K mg base (j + 1) (He.ga K "Watched") "stop" (sp_Watched_stop K w) [] :=
  ⟨f, fd, ["self", "place", "hand", "wish"], [], Fc.clWatched, k, fnD F sc_m_Watched_stop (fun vs H Q E h => by obtain ⟨_, _, _, _, _, rfl, _⟩ := h; rfl) (fun cdv A outer s H vs Q E hr => der_m_Watched_stop Fc G c_Watched_need_hand c_is_wish hr) (fun vs H Q E h => pu_m_Watched_stop  vs H Q E h), F.bindsN fun _ _ _ _ _ _ us hl => match us, hl with | [_, _, _, _], _ => rfl, .nil⟩
theorem met_m_Watched_met {P : Program} {w : World} {K : PySem.W.Frag} {mg : Str → Option Value} {base : Heap} {j : Nat} (Fc : Fcts K) (T : Tb K w) (Tw' : Tw K) (G : Gx K mg) (c_Machine_next_place : Met P w K mg base j (He.ga K "Machine") "next_place" (sp_Machine_next_place K w) []) (c_worth : Cal P w K mg base j "worth" (sp_worth 8 K w) []) {f : Addr} {fd : FuncData} (F : FunD K "met" "Watched.met" (defArgs s_m_Watched_met) (defBody s_m_Watched_met) (defScope s_m_Watched_met) [] [] f fd) (k : Meth K (He.ga K "Watched") "met" f) : Met P w K mg base (j + 1) (He.ga K "Watched") "met" (sp_Watched_met K w) [] :=
  ⟨f, fd, ["self"], [], Fc.clWatched, k, fnD F sc_m_Watched_met (fun vs H Q E h => by obtain ⟨_, _, _, rfl, _⟩ := h; rfl) (fun cdv A outer s H vs Q E hr => der_m_Watched_met Fc G c_Machine_next_place c_worth hr) (fun vs H Q E h => pu_m_Watched_met  vs H Q E h), F.bindsN fun _ _ _ _ _ _ us hl => match us, hl with | [_], _ => rfl, .nil⟩
theorem met_m_Watched_is_reached {P : Program} {w : World} {K : PySem.W.Frag} {mg : Str → Option Value} {base : Heap} {j : Nat} (Fc : Fcts K) (T : Tb K w) (Tw' : Tw K) (G : Gx K mg)  {f : Addr} {fd : FuncData} (F : FunD K "is_reached" "Watched.is_reached" (defArgs s_m_Watched_is_reached) (defBody s_m_Watched_is_reached) (defScope s_m_Watched_is_reached) [] [] f fd) (k : Meth K (He.ga K "Watched") "is_reached" f) : Met P w K mg base (j + 1) (He.ga K "Watched") "is_reached" (sp_Watched_is_reached K w) [] :=
  ⟨f, fd, ["self"], [], Fc.clWatched, k, fnD F sc_m_Watched_is_reached (fun vs H Q E h => by obtain ⟨_, _, _, _, rfl, _⟩ := h; rfl) (fun cdv A outer s H vs Q E hr => der_m_Watched_is_reached Fc G  hr) (fun vs H Q E h => pu_m_Watched_is_reached  vs H Q E h), F.bindsN fun _ _ _ _ _ _ us hl => match us, hl with | [_], _ => rfl, .nil⟩
theorem met_m_Watched_event {P : Program} {w : World} {K : PySem.W.Frag} {mg : Str → Option Value} {base : Heap} {j : Nat} (Fc : Fcts K) (T : Tb K w) (Tw' : Tw K) (G : Gx K mg) (c_Machine_is_over : Met P w K mg base j (He.ga K "Machine") "is_over" (sp_Machine_is_over K w) []) (c_Watched_met : Met P w K mg base j (He.ga K "Watched") "met" (sp_Watched_met K w) []) (c_Machine_next_place : Met P w K mg base j (He.ga K "Machine") "next_place" (sp_Machine_next_place K w) []) (c_Watched_is_reached : Met P w K mg base j (He.ga K "Watched") "is_reached" (sp_Watched_is_reached K w) []) {f : Addr} {fd : FuncData} (F : FunD K "event" "Watched.event" (defArgs s_m_Watched_event) (defBody s_m_Watched_event) (defScope s_m_Watched_event) [] [] f fd) (k : Meth K (He.ga K "Watched") "event" f) : Met P w K mg base (j + 1) (He.ga K "Watched") "event" (sp_Watched_event K w) [] :=
  ⟨f, fd, ["self"], [], Fc.clWatched, k, fnD F sc_m_Watched_event (fun vs H Q E h => by obtain ⟨_, _, _, rfl, _⟩ := h; rfl) (fun cdv A outer s H vs Q E hr => der_m_Watched_event Fc G c_Machine_is_over c_Watched_met c_Machine_next_place c_Watched_is_reached hr) (fun vs H Q E h => pu_m_Watched_event  vs H Q E h), F.bindsN fun _ _ _ _ _ _ us hl => match us, hl with | [_], _ => rfl, .nil⟩
theorem met_m_Watched_begin {P : Program} {w : World} {K : PySem.W.Frag} {mg : Str → Option Value} {base : Heap} {j : Nat} (Fc : Fcts K) (T : Tb K w) (Tw' : Tw K) (G : Gx K mg)  {f : Addr} {fd : FuncData} (F : FunD K "begin" "Watched.begin" (defArgs s_m_Watched_begin) (defBody s_m_Watched_begin) (defScope s_m_Watched_begin) [] [] f fd) (k : Meth K (He.ga K "Watched") "begin" f) : Met P w K mg base (j + 1) (He.ga K "Watched") "begin" (sp_Watched_begin K w) [] :=
  ⟨f, fd, ["self", "goal", "many"], [], Fc.clWatched, k, fnD F sc_m_Watched_begin (fun vs H Q E h => by obtain ⟨_, _, _, _, _, _, rfl, _⟩ := h; rfl) (fun cdv A outer s H vs Q E hr => der_m_Watched_begin Fc G  hr) (fun vs H Q E h => pu_m_Watched_begin  vs H Q E h), F.bindsN fun _ _ _ _ _ _ us hl => match us, hl with | [_, _, _], _ => rfl, .nil⟩
theorem met_m_Watched_on {P : Program} {w : World} {K : PySem.W.Frag} {mg : Str → Option Value} {base : Heap} {j : Nat} (Fc : Fcts K) (T : Tb K w) (Tw' : Tw K) (G : Gx K mg) (c_Watched_event : Met P w K mg base j (He.ga K "Watched") "event" (sp_Watched_event K w) []) (c_Machine_deed : Met P w K mg base j (He.ga K "Machine") "deed" (sp_Machine_deed K w) []) {f : Addr} {fd : FuncData} (F : FunD K "on" "Watched.on" (defArgs s_m_Watched_on) (defBody s_m_Watched_on) (defScope s_m_Watched_on) [] [] f fd) (k : Meth K (He.ga K "Watched") "on" f) : Met P w K mg base (j + 1) (He.ga K "Watched") "on" (sp_Watched_on K w) [] :=
  ⟨f, fd, ["self"], [], Fc.clWatched, k, fnD F sc_m_Watched_on (fun vs H Q E h => by obtain ⟨_, _, _, rfl, _⟩ := h; rfl) (fun cdv A outer s H vs Q E hr => der_m_Watched_on Fc G c_Watched_event c_Machine_deed hr) (fun vs H Q E h => pu_m_Watched_on  vs H Q E h), F.bindsN fun _ _ _ _ _ _ us hl => match us, hl with | [_], _ => rfl, .nil⟩
theorem met_m_Watched_finish {P : Program} {w : World} {K : PySem.W.Frag} {mg : Str → Option Value} {base : Heap} {j : Nat} (Fc : Fcts K) (T : Tb K w) (Tw' : Tw K) (G : Gx K mg) (c_Watched_on : Met P w K mg base j (He.ga K "Watched") "on" (sp_Watched_on K w) []) {f : Addr} {fd : FuncData} (F : FunD K "finish" "Watched.finish" (defArgs s_m_Watched_finish) (defBody s_m_Watched_finish) (defScope s_m_Watched_finish) [] [] f fd) (k : Meth K (He.ga K "Watched") "finish" f) : Met P w K mg base (j + 1) (He.ga K "Watched") "finish" (sp_Watched_finish K w) [] :=
  ⟨f, fd, ["self"], [], Fc.clWatched, k, fnD F sc_m_Watched_finish (fun vs H Q E h => by obtain ⟨_, _, _, rfl, _⟩ := h; rfl) (fun cdv A outer s H vs Q E hr => der_m_Watched_finish Fc G c_Watched_on hr) (fun vs H Q E h => pu_m_Watched_finish  vs H Q E h), F.bindsN fun _ _ _ _ _ _ us hl => match us, hl with | [_], _ => rfl, .nil⟩
theorem met_m_Watched_go {P : Program} {w : World} {K : PySem.W.Frag} {mg : Str → Option Value} {base : Heap} {j : Nat} (Fc : Fcts K) (T : Tb K w) (Tw' : Tw K) (G : Gx K mg) (c_Watched_need_go : Met P w K mg base j (He.ga K "Watched") "need_go" (sp_Watched_need_go K w) []) (c_Watched_begin : Met P w K mg base j (He.ga K "Watched") "begin" (sp_Watched_begin K w) []) (c_Watched_finish : Met P w K mg base j (He.ga K "Watched") "finish" (sp_Watched_finish K w) []) {f : Addr} {fd : FuncData} (F : FunD K "go" "Watched.go" (defArgs s_m_Watched_go) (defBody s_m_Watched_go) (defScope s_m_Watched_go) [] [] f fd) (k : Meth K (He.ga K "Watched") "go" f) : Met P w K mg base (j + 1) (He.ga K "Watched") "go" (sp_Watched_go K w) [] :=
  ⟨f, fd, ["self", "many"], [], Fc.clWatched, k, fnD F sc_m_Watched_go (fun vs H Q E h => by obtain ⟨_, _, _, _, rfl, _⟩ := h; rfl) (fun cdv A outer s H vs Q E hr => der_m_Watched_go Fc G c_Watched_need_go c_Watched_begin c_Watched_finish hr) (fun vs H Q E h => pu_m_Watched_go  vs H Q E h), F.bindsN fun _ _ _ _ _ _ us hl => match us, hl with | [_, _], _ => rfl, .nil⟩
theorem met_m_Watched_need_go {P : Program} {w : World} {K : PySem.W.Frag} {mg : Str → Option Value} {base : Heap} {j : Nat} (Fc : Fcts K) (T : Tb K w) (Tw' : Tw K) (G : Gx K mg) (c_need_count : Cal P w K mg base j "need_count" (sp_need_count K w) []) (c_Machine_is_over : Met P w K mg base j (He.ga K "Machine") "is_over" (sp_Machine_is_over K w) []) {f : Addr} {fd : FuncData} (F : FunD K "need_go" "Watched.need_go" (defArgs s_m_Watched_need_go) (defBody s_m_Watched_need_go) (defScope s_m_Watched_need_go) [] [] f fd) (k : Meth K (He.ga K "Watched") "need_go" f) : Met P w K mg base (j + 1) (He.ga K "Watched") "need_go" (sp_Watched_need_go K w) [] :=
  ⟨f, fd, ["self", "many"], [], Fc.clWatched, k, fnD F sc_m_Watched_need_go (fun vs H Q E h => by obtain ⟨_, _, _, _, rfl, _⟩ := h; rfl) (fun cdv A outer s H vs Q E hr => der_m_Watched_need_go Fc G c_need_count c_Machine_is_over hr) (fun vs H Q E h => pu_m_Watched_need_go  vs H Q E h), F.bindsN fun _ _ _ _ _ _ us hl => match us, hl with | [_, _], _ => rfl, .nil⟩
theorem met_m_Watched_need_step {P : Program} {w : World} {K : PySem.W.Frag} {mg : Str → Option Value} {base : Heap} {j : Nat} (Fc : Fcts K) (T : Tb K w) (Tw' : Tw K) (G : Gx K mg) (c_Watched_need_hand : Met P w K mg base j (He.ga K "Watched") "need_hand" (sp_Watched_need_hand K w) []) (c_need_count : Cal P w K mg base j "need_count" (sp_need_count K w) []) {f : Addr} {fd : FuncData} (F : FunD K "need_step" "Watched.need_step" (defArgs s_m_Watched_need_step) (defBody s_m_Watched_need_step) (defScope s_m_Watched_need_step) [] [] f fd) (k : Meth K (He.ga K "Watched") "need_step" f) : Met P w K mg base (j + 1) (He.ga K "Watched") "need_step" (sp_Watched_need_step K w) [] :=
  ⟨f, fd, ["self", "hand", "way", "many"], [], Fc.clWatched, k, fnD F sc_m_Watched_need_step (fun vs H Q E h => by obtain ⟨_, _, _, _, _, _, rfl, _⟩ := h; rfl) (fun cdv A outer s H vs Q E hr => der_m_Watched_need_step Fc G c_Watched_need_hand c_need_count hr) (fun vs H Q E h => pu_m_Watched_need_step Tw' vs H Q E h), F.bindsN fun _ _ _ _ _ _ us hl => match us, hl with | [_, _, _, _], _ => rfl, .nil⟩
theorem met_m_Watched_step {P : Program} {w : World} {K : PySem.W.Frag} {mg : Str → Option Value} {base : Heap} {j : Nat} (Fc : Fcts K) (T : Tb K w) (Tw' : Tw K) (G : Gx K mg) (c_Watched_need_step : Met P w K mg base j (He.ga K "Watched") "need_step" (sp_Watched_need_step K w) []) (c_Watched_begin : Met P w K mg base j (He.ga K "Watched") "begin" (sp_Watched_begin K w) []) (c_Watched_finish : Met P w K mg base j (He.ga K "Watched") "finish" (sp_Watched_finish K w) []) {f : Addr} {fd : FuncData} (F : FunD K "step" "Watched.step" (defArgs s_m_Watched_step) (defBody s_m_Watched_step) (defScope s_m_Watched_step) [] [] f fd) (k : Meth K (He.ga K "Watched") "step" f) : Met P w K mg base (j + 1) (He.ga K "Watched") "step" (sp_Watched_step K w) [] :=
  ⟨f, fd, ["self", "hand", "way", "many"], [], Fc.clWatched, k, fnD F sc_m_Watched_step (fun vs H Q E h => by obtain ⟨_, _, _, _, _, _, rfl, _⟩ := h; rfl) (fun cdv A outer s H vs Q E hr => der_m_Watched_step Fc G c_Watched_need_step c_Watched_begin c_Watched_finish hr) (fun vs H Q E h => pu_m_Watched_step  vs H Q E h), F.bindsN fun _ _ _ _ _ _ us hl => match us, hl with | [_, _, _, _], _ => rfl, .nil⟩
theorem met_m_Watched_stack {P : Program} {w : World} {K : PySem.W.Frag} {mg : Str → Option Value} {base : Heap} {j : Nat} (Fc : Fcts K) (T : Tb K w) (Tw' : Tw K) (G : Gx K mg) (c_Watched_need_hand : Met P w K mg base j (He.ga K "Watched") "need_hand" (sp_Watched_need_hand K w) []) (c_Machine_next_place : Met P w K mg base j (He.ga K "Machine") "next_place" (sp_Machine_next_place K w) []) {f : Addr} {fd : FuncData} (F : FunD K "stack" "Watched.stack" (defArgs s_m_Watched_stack) (defBody s_m_Watched_stack) (defScope s_m_Watched_stack) [] [] f fd) (k : Meth K (He.ga K "Watched") "stack" f) : Met P w K mg base (j + 1) (He.ga K "Watched") "stack" (sp_Watched_stack K w) [] :=
  ⟨f, fd, ["self", "hand"], [], Fc.clWatched, k, fnD F sc_m_Watched_stack (fun vs H Q E h => by obtain ⟨_, _, _, _, rfl, _⟩ := h; rfl) (fun cdv A outer s H vs Q E hr => der_m_Watched_stack Fc G c_Watched_need_hand c_Machine_next_place hr) (fun vs H Q E h => pu_m_Watched_stack  vs H Q E h), F.bindsN fun _ _ _ _ _ _ us hl => match us, hl with | [_, _], _ => rfl, .nil⟩
theorem met_m_Watched_frame {P : Program} {w : World} {K : PySem.W.Frag} {mg : Str → Option Value} {base : Heap} {j : Nat} (Fc : Fcts K) (T : Tb K w) (Tw' : Tw K) (G : Gx K mg) (c_Watched_need_hand : Met P w K mg base j (He.ga K "Watched") "need_hand" (sp_Watched_need_hand K w) []) (c_is_number : Cal P w K mg base j "is_number" (sp_is_number K w) []) {f : Addr} {fd : FuncData} (F : FunD K "frame" "Watched.frame" (defArgs s_m_Watched_frame) (defBody s_m_Watched_frame) (defScope s_m_Watched_frame) [] [] f fd) (k : Meth K (He.ga K "Watched") "frame" f) : Met P w K mg base (j + 1) (He.ga K "Watched") "frame" (sp_Watched_frame K w) [] :=
  ⟨f, fd, ["self", "hand", "deep"], [], Fc.clWatched, k, fnD F sc_m_Watched_frame (fun vs H Q E h => by obtain ⟨_, _, _, _, _, _, _, _, rfl, _⟩ := h; rfl) (fun cdv A outer s H vs Q E hr => der_m_Watched_frame Fc G c_Watched_need_hand c_is_number hr) (fun vs H Q E h => pu_m_Watched_frame  vs H Q E h), F.bindsN fun _ _ _ _ _ _ us hl => match us, hl with | [_, _, _], _ => rfl, .nil⟩
theorem met_m_Watched_look {P : Program} {w : World} {K : PySem.W.Frag} {mg : Str → Option Value} {base : Heap} {j : Nat} (Fc : Fcts K) (T : Tb K w) (Tw' : Tw K) (G : Gx K mg) (c_Watched_frame : Met P w K mg base j (He.ga K "Watched") "frame" (sp_Watched_frame K w) []) {f : Addr} {fd : FuncData} (F : FunD K "look" "Watched.look" (defArgs s_m_Watched_look) (defBody s_m_Watched_look) (defScope s_m_Watched_look) [] [] f fd) (k : Meth K (He.ga K "Watched") "look" f) : Met P w K mg base (j + 1) (He.ga K "Watched") "look" (sp_Watched_look K w) [] :=
  ⟨f, fd, ["self", "hand", "deep"], [], Fc.clWatched, k, fnD F sc_m_Watched_look (fun vs H Q E h => by obtain ⟨_, _, _, _, _, _, _, rfl, _⟩ := h; rfl) (fun cdv A outer s H vs Q E hr => der_m_Watched_look Fc G c_Watched_frame hr) (fun vs H Q E h => pu_m_Watched_look  vs H Q E h), F.bindsN fun _ _ _ _ _ _ us hl => match us, hl with | [_, _, _], _ => rfl, .nil⟩
theorem met_m_Watched_change {P : Program} {w : World} {K : PySem.W.Frag} {mg : Str → Option Value} {base : Heap} {j : Nat} (Fc : Fcts K) (T : Tb K w) (Tw' : Tw K) (G : Gx K mg) (c_Watched_frame : Met P w K mg base j (He.ga K "Watched") "frame" (sp_Watched_frame K w) []) (c_is_number : Cal P w K mg base j "is_number" (sp_is_number K w) []) (c_need_number : Cal P w K mg base j "need_number" (sp_need_number K w) []) {f : Addr} {fd : FuncData} (F : FunD K "change" "Watched.change" (defArgs s_m_Watched_change) (defBody s_m_Watched_change) (defScope s_m_Watched_change) [] [] f fd) (k : Meth K (He.ga K "Watched") "change" f) : Met P w K mg base (j + 1) (He.ga K "Watched") "change" (sp_Watched_change K w) [] :=
  ⟨f, fd, ["self", "hand", "deep", "name", "number"], [], Fc.clWatched, k, fnD F sc_m_Watched_change (fun vs H Q E h => by obtain ⟨_, _, _, _, _, _, _, _, _, rfl, _⟩ := h; rfl) (fun cdv A outer s H vs Q E hr => der_m_Watched_change Fc G c_Watched_frame c_is_number c_need_number hr) (fun vs H Q E h => pu_m_Watched_change  vs H Q E h), F.bindsN fun _ _ _ _ _ _ us hl => match us, hl with | [_, _, _, _, _], _ => rfl, .nil⟩
theorem met_m_Watched_put {P : Program} {w : World} {K : PySem.W.Frag} {mg : Str → Option Value} {base : Heap} {j : Nat} (Fc : Fcts K) (T : Tb K w) (Tw' : Tw K) (G : Gx K mg) (c_is_number : Cal P w K mg base j "is_number" (sp_is_number K w) []) (c_need_number : Cal P w K mg base j "need_number" (sp_need_number K w) []) {f : Addr} {fd : FuncData} (F : FunD K "put" "Watched.put" (defArgs s_m_Watched_put) (defBody s_m_Watched_put) (defScope s_m_Watched_put) [] [] f fd) (k : Meth K (He.ga K "Watched") "put" f) : Met P w K mg base (j + 1) (He.ga K "Watched") "put" (sp_Watched_put K w) [] :=
  ⟨f, fd, ["self", "cell", "number"], [], Fc.clWatched, k, fnD F sc_m_Watched_put (fun vs H Q E h => by obtain ⟨_, _, _, _, _, rfl, _⟩ := h; rfl) (fun cdv A outer s H vs Q E hr => der_m_Watched_put Fc G c_is_number c_need_number hr) (fun vs H Q E h => pu_m_Watched_put  vs H Q E h), F.bindsN fun _ _ _ _ _ _ us hl => match us, hl with | [_, _, _], _ => rfl, .nil⟩
theorem met_m_Watched_cells {P : Program} {w : World} {K : PySem.W.Frag} {mg : Str → Option Value} {base : Heap} {j : Nat} (Fc : Fcts K) (T : Tb K w) (Tw' : Tw K) (G : Gx K mg)  {f : Addr} {fd : FuncData} (F : FunD K "cells" "Watched.cells" (defArgs s_m_Watched_cells) (defBody s_m_Watched_cells) (defScope s_m_Watched_cells) [] [] f fd) (k : Meth K (He.ga K "Watched") "cells" f) : Met P w K mg base (j + 1) (He.ga K "Watched") "cells" (sp_Watched_cells K w) [] :=
  ⟨f, fd, ["self"], [], Fc.clWatched, k, fnD F sc_m_Watched_cells (fun vs H Q E h => by obtain ⟨_, _, _, rfl, _⟩ := h; rfl) (fun cdv A outer s H vs Q E hr => der_m_Watched_cells Fc G  hr) (fun vs H Q E h => pu_m_Watched_cells  vs H Q E h), F.bindsN fun _ _ _ _ _ _ us hl => match us, hl with | [_], _ => rfl, .nil⟩
theorem met_m_Watched_said {P : Program} {w : World} {K : PySem.W.Frag} {mg : Str → Option Value} {base : Heap} {j : Nat} (Fc : Fcts K) (T : Tb K w) (Tw' : Tw K) (G : Gx K mg)  {f : Addr} {fd : FuncData} (F : FunD K "said" "Watched.said" (defArgs s_m_Watched_said) (defBody s_m_Watched_said) (defScope s_m_Watched_said) [] [] f fd) (k : Meth K (He.ga K "Watched") "said" f) : Met P w K mg base (j + 1) (He.ga K "Watched") "said" (sp_Watched_said K w) [] :=
  ⟨f, fd, ["self"], [], Fc.clWatched, k, fnD F sc_m_Watched_said (fun vs H Q E h => by obtain ⟨_, _, _, rfl, _⟩ := h; rfl) (fun cdv A outer s H vs Q E hr => der_m_Watched_said Fc G  hr) (fun vs H Q E h => pu_m_Watched_said  vs H Q E h), F.bindsN fun _ _ _ _ _ _ us hl => match us, hl with | [_], _ => rfl, .nil⟩
theorem met_m_Watched_is_over {P : Program} {w : World} {K : PySem.W.Frag} {mg : Str → Option Value} {base : Heap} {j : Nat} (Fc : Fcts K) (T : Tb K w) (Tw' : Tw K) (G : Gx K mg) (c_Machine_is_over : Met P w K mg base j (He.ga K "Machine") "is_over" (sp_Machine_is_over K w) []) {f : Addr} {fd : FuncData} (F : FunD K "is_over" "Watched.is_over" (defArgs s_m_Watched_is_over) (defBody s_m_Watched_is_over) (defScope s_m_Watched_is_over) [] [] f fd) (k : Meth K (He.ga K "Watched") "is_over" f) : Met P w K mg base (j + 1) (He.ga K "Watched") "is_over" (sp_Watched_is_over K w) [] :=
  ⟨f, fd, ["self"], [], Fc.clWatched, k, fnD F sc_m_Watched_is_over (fun vs H Q E h => by obtain ⟨_, _, _, rfl, _⟩ := h; rfl) (fun cdv A outer s H vs Q E hr => der_m_Watched_is_over Fc G c_Machine_is_over hr) (fun vs H Q E h => pu_m_Watched_is_over  vs H Q E h), F.bindsN fun _ _ _ _ _ _ us hl => match us, hl with | [_], _ => rfl, .nil⟩
theorem cal_f_need_number {P : Program} {w : World} {K : PySem.W.Frag} {mg : Str → Option Value} {base : Heap} {j : Nat} (Fc : Fcts K) (T : Tb K w) (Tw' : Tw K) (G : Gx K mg) (c_is_number : Cal P w K mg base j "is_number" (sp_is_number K w) []) {f : Addr} {fd : FuncData} (F : FunD K "need_number" "need_number" (defArgs s_f_need_number) (defBody s_f_need_number) (defScope s_f_need_number) [] [] f fd) (m : mg "need_number" = some (.ref f)) : Cal P w K mg base (j + 1) "need_number" (sp_need_number K w) [] :=
  ⟨f, fd, ["number"], [], fnD F sc_f_need_number (fun vs H Q E h => by obtain ⟨_, rfl, _⟩ := h; rfl) (fun cdv A outer s H vs Q E hr => der_f_need_number Fc G c_is_number hr) (fun vs H Q E h => pu_f_need_number  vs H Q E h), m, F.kp, F.bindsN fun _ _ _ _ _ _ us hl => match us, hl with | [_], _ => rfl, .nil⟩
theorem cal_f_law_dice {P : Program} {w : World} {K : PySem.W.Frag} {mg : Str → Option Value} {base : Heap} {j : Nat} (Fc : Fcts K) (T : Tb K w) (Tw' : Tw K) (G : Gx K mg)  {f : Addr} {fd : FuncData} (F : FunD K "_law_dice" "_law_dice" (defArgs s_f_law_dice) (defBody s_f_law_dice) (defScope s_f_law_dice) [] [] f fd) (m : mg "_law_dice" = some (.ref f)) : Cal P w K mg base (j + 1) "_law_dice" (sp_law_dice K w) [] :=
  ⟨f, fd, ["_law_script"], [], fnD F sc_f_law_dice (fun vs H Q E h => by obtain ⟨_, _, rfl, _⟩ := h; rfl) (fun cdv A outer s H vs Q E hr => der_f_law_dice Fc G  hr) (fun vs H Q E h => pu_f_law_dice  vs H Q E h), m, F.kp, F.bindsN fun _ _ _ _ _ _ us hl => match us, hl with | [_], _ => rfl, .nil⟩
theorem cal_f_law_next {P : Program} {w : World} {K : PySem.W.Frag} {mg : Str → Option Value} {base : Heap} {j : Nat} (Fc : Fcts K) (T : Tb K w) (Tw' : Tw K) (G : Gx K mg)  {f : Addr} {fd : FuncData} (F : FunD K "_law_next" "_law_next" (defArgs s_f_law_next) (defBody s_f_law_next) (defScope s_f_law_next) [] [] f fd) (m : mg "_law_next" = some (.ref f)) : Cal P w K mg base (j + 1) "_law_next" (sp_law_next K w) [] :=
  ⟨f, fd, ["_law_dice_here", "_law_many"], [], fnD F sc_f_law_next (fun vs H Q E h => by obtain ⟨_, _, _, _, _, _, _, _, rfl, _⟩ := h; rfl) (fun cdv A outer s H vs Q E hr => der_f_law_next Fc G  hr) (fun vs H Q E h => pu_f_law_next  vs H Q E h), m, F.kp, F.bindsN fun _ _ _ _ _ _ us hl => match us, hl with | [_, _], _ => rfl, .nil⟩
theorem cal_f_law_part {P : Program} {w : World} {K : PySem.W.Frag} {mg : Str → Option Value} {base : Heap} {j : Nat} (n : Nat) (Fc : Fcts K) (T : Tb K w) (Tw' : Tw K) (G : Gx K mg) (c_law_next : Cal P w K mg base j "_law_next" (sp_law_next K w) []) (c_law_part : Cal P w K mg base j "_law_part" (sp_law_part n K w) []) {f : Addr} {fd : FuncData} (F : FunD K "_law_part" "_law_part" (defArgs s_f_law_part) (defBody s_f_law_part) (defScope s_f_law_part) [] [] f fd) (m : mg "_law_part" = some (.ref f)) : Cal P w K mg base (j + 1) "_law_part" (sp_law_part (n + 1) K w) [] :=
  ⟨f, fd, ["_law_d", "_law_names_here", "_law_cells", "_law_deep"], [], fnD F sc_f_law_part (fun vs H Q E h => by obtain ⟨_, _, _, _, _, _, _, rfl, _⟩ := h; rfl) (fun cdv A outer s H vs Q E hr => der_f_law_part n Fc G c_law_next c_law_part hr) (fun vs H Q E h => pu_f_law_part n vs H Q E h), m, F.kp, F.bindsN fun _ _ _ _ _ _ us hl => match us, hl with | [_, _, _, _], _ => rfl, .nil⟩
theorem cal_f_law_body {P : Program} {w : World} {K : PySem.W.Frag} {mg : Str → Option Value} {base : Heap} {j : Nat} (n : Nat) (Fc : Fcts K) (T : Tb K w) (Tw' : Tw K) (G : Gx K mg) (c_law_next : Cal P w K mg base j "_law_next" (sp_law_next K w) []) (c_law_part : Cal P w K mg base j "_law_part" (sp_law_part 4 K w) []) (c_law_body : Cal P w K mg base j "_law_body" (sp_law_body n K w) []) {f : Addr} {fd : FuncData} (F : FunD K "_law_body" "_law_body" (defArgs s_f_law_body) (defBody s_f_law_body) (defScope s_f_law_body) [] [] f fd) (m : mg "_law_body" = some (.ref f)) : Cal P w K mg base (j + 1) "_law_body" (sp_law_body (n + 1) K w) [] :=
  ⟨f, fd, ["_law_d", "_law_s", "_law_deep", "_law_most"], [], fnD F sc_f_law_body (fun vs H Q E h => by obtain ⟨_, _, _, _, _, _, _, _, _, _, _, rfl, _⟩ := h; rfl) (fun cdv A outer s H vs Q E hr => der_f_law_body n Fc G c_law_next c_law_part c_law_body hr) (fun vs H Q E h => pu_f_law_body n vs H Q E h), m, F.kp, F.bindsN fun _ _ _ _ _ _ us hl => match us, hl with | [_, _, _, _], _ => rfl, .nil⟩
theorem cal_f_law_count {P : Program} {w : World} {K : PySem.W.Frag} {mg : Str → Option Value} {base : Heap} {j : Nat} (n : Nat) (Fc : Fcts K) (T : Tb K w) (Tw' : Tw K) (G : Gx K mg) (c_law_count : Cal P w K mg base j "_law_count" (sp_law_count n K w) []) {f : Addr} {fd : FuncData} (F : FunD K "_law_count" "_law_count" (defArgs s_f_law_count) (defBody s_f_law_count) (defScope s_f_law_count) [] [] f fd) (m : mg "_law_count" = some (.ref f)) : Cal P w K mg base (j + 1) "_law_count" (sp_law_count (n + 1) K w) [] :=
  ⟨f, fd, ["_law_thing"], [], fnD F sc_f_law_count (fun vs H Q E h => by obtain ⟨_, _, _, rfl, _⟩ := h; rfl) (fun cdv A outer s H vs Q E hr => der_f_law_count n Fc G c_law_count hr) (fun vs H Q E h => pu_f_law_count n vs H Q E h), m, F.kp, F.bindsN fun _ _ _ _ _ _ us hl => match us, hl with | [_], _ => rfl, .nil⟩
theorem cal_f_law_program {P : Program} {w : World} {K : PySem.W.Frag} {mg : Str → Option Value} {base : Heap} {j : Nat} (Fc : Fcts K) (T : Tb K w) (Tw' : Tw K) (G : Gx K mg) (c_law_next : Cal P w K mg base j "_law_next" (sp_law_next K w) []) (c_law_body : Cal P w K mg base j "_law_body" (sp_law_body 5 K w) []) (c_law_count : Cal P w K mg base j "_law_count" (sp_law_count 20 K w) []) {f : Addr} {fd : FuncData} (F : FunD K "_law_program" "_law_program" (defArgs s_f_law_program) (defBody s_f_law_program) (defScope s_f_law_program) [] [] f fd) (m : mg "_law_program" = some (.ref f)) : Cal P w K mg base (j + 1) "_law_program" (sp_law_program K w) [] :=
  ⟨f, fd, ["_law_d"], [], fnD F sc_f_law_program (fun vs H Q E h => by obtain ⟨_, _, _, _, rfl, _⟩ := h; rfl) (fun cdv A outer s H vs Q E hr => der_f_law_program Fc G c_law_next c_law_body c_law_count hr) (fun vs H Q E h => pu_f_law_program  vs H Q E h), m, F.kp, F.bindsN fun _ _ _ _ _ _ us hl => match us, hl with | [_], _ => rfl, .nil⟩
theorem cal_f_law_names {P : Program} {w : World} {K : PySem.W.Frag} {mg : Str → Option Value} {base : Heap} {j : Nat} (Fc : Fcts K) (T : Tb K w) (Tw' : Tw K) (G : Gx K mg) (c_Watched_stack : Met P w K mg base j (He.ga K "Watched") "stack" (sp_Watched_stack K w) []) (c_Watched_look : Met P w K mg base j (He.ga K "Watched") "look" (sp_Watched_look K w) []) {f : Addr} {fd : FuncData} (F : FunD K "_law_names" "_law_names" (defArgs s_f_law_names) (defBody s_f_law_names) (defScope s_f_law_names) [] [] f fd) (m : mg "_law_names" = some (.ref f)) : Cal P w K mg base (j + 1) "_law_names" (sp_law_names K w) [] :=
  ⟨f, fd, ["_law_watched", "_law_hands"], [], fnD F sc_f_law_names (fun vs H Q E h => by obtain ⟨_, _, _, _, rfl, _⟩ := h; rfl) (fun cdv A outer s H vs Q E hr => der_f_law_names Fc G c_Watched_stack c_Watched_look hr) (fun vs H Q E h => pu_f_law_names  vs H Q E h), m, F.kp, F.bindsN fun _ _ _ _ _ _ us hl => match us, hl with | [_, _], _ => rfl, .nil⟩
theorem ok_law {P : Program} {w : World} {K : PySem.W.Frag} {mg : Str → Option Value} {base : Heap} {j : Nat} (Fc : Fcts K) (T : Tb K w) (Tw' : Tw K) (G : Gx K mg) (c_law_dice : Cal P w K mg base j "_law_dice" (sp_law_dice K w) []) (c_law_program : Cal P w K mg base j "_law_program" (sp_law_program K w) []) (c_law_next : Cal P w K mg base j "_law_next" (sp_law_next K w) []) {jm_Watched : Nat} (hj_Watched : jm_Watched + 1 ≤ j) (c_Watched : Mak P w K mg base jm_Watched "Watched" (He.ga K "Watched") (sp_Watched_init K w) []) (c_Watched_put : Met P w K mg base j (He.ga K "Watched") "put" (sp_Watched_put K w) []) (c_Watched_is_over : Met P w K mg base j (He.ga K "Watched") "is_over" (sp_Watched_is_over K w) []) (c_Watched_go : Met P w K mg base j (He.ga K "Watched") "go" (sp_Watched_go K w) []) (c_plain : Cal P w K mg base j "plain" (sp_plain K w) []) (c_Watched_said : Met P w K mg base j (He.ga K "Watched") "said" (sp_Watched_said K w) []) (c_Watched_cells : Met P w K mg base j (He.ga K "Watched") "cells" (sp_Watched_cells K w) []) (c_law_names : Cal P w K mg base j "_law_names" (sp_law_names K w) []) (c_Watched_change : Met P w K mg base j (He.ga K "Watched") "change" (sp_Watched_change K w) []) {f : Addr} {fd : FuncData} (F : FunD K "law" "law" (defArgs s_f_law) (defBody s_f_law) (defScope s_f_law) [] [] f fd) : FnOk P w K mg base CX0 (j + 1) f fd ["_law_script"] (sp_law K w) :=
  fnD F sc_f_law (fun vs H Q E h => by obtain ⟨_, _, rfl, _⟩ := h; rfl) (fun cdv A outer s H vs Q E hr => der_f_law Fc G c_law_dice c_law_program c_law_next hj_Watched c_Watched c_Watched_put c_Watched_is_over c_Watched_go c_plain c_Watched_said c_Watched_cells c_law_names c_Watched_change hr) (fun vs H Q E h => pu_f_law  vs H Q E h)
end SD
set_option Elab.async false
set_option linter.all false
set_option maxRecDepth 100000
set_option maxHeartbeats 4000000
namespace SD
open PySem PySem.Spec PyProof.Rows L2
open C8 (Cal Met Mak pe_c pe_mk pe_mt pe_mt0 pe_gc)
open Hd
theorem sp0_m_Looker_part {K : PySem.W.Frag} {w : World} {vs : List V} {H : Hp} {Q : VK} {E : XK} (h : sp_Looker_part 0 K w vs H Q E) : False := by
  obtain ⟨_, _, _, _, _, _, _, _, p, _, _, _, hd, _⟩ := h; cases p <;> simp [Pt.dp] at hd
theorem rec_part {P : Program} {w : World} {K : PySem.W.Frag} {mg : Str → Option Value} {base : Heap} {j : Nat} (Fc : Fcts K) (T : Tb K w) (Tw' : Tw K) (G : Gx K mg) (c_Looker_begin : Met P w K mg base j (He.ga K "Looker") "begin" (sp_Looker_begin K w) []) {f : Addr} {fd : FuncData} (F : FunD K "part" "Looker.part" (defArgs s_m_Looker_part) (defBody s_m_Looker_part) (defScope s_m_Looker_part) [] [] f fd) (k : Meth K (He.ga K "Looker") "part" f) : ∀ n, Met P w K mg base (j + n + 1) (He.ga K "Looker") "part" (sp_Looker_part n K w) []
  | 0 => ⟨f, fd, ["self", "part", "deep"], [], Fc.clLooker, k, FunD.ok F sc_m_Looker_part (fun vs H Q E h => (sp0_m_Looker_part h).elim) (fun cdv A outer s H vs Q E hr h => (sp0_m_Looker_part h).elim), F.bindsN fun _ _ _ _ _ _ us hl => match us, hl with | [_, _, _], _ => rfl, .nil⟩
  | n + 1 => met_m_Looker_part n Fc T Tw' G (mono_met c_Looker_begin (by omega)) (rec_part Fc T Tw' G c_Looker_begin F k n) F k
theorem sp0_m_Looker_body {K : PySem.W.Frag} {w : World} {vs : List V} {H : Hp} {Q : VK} {E : XK} (h : sp_Looker_body 0 K w vs H Q E) : False := by
  obtain ⟨_, _, _, _, _, _, _, _, b, _, _, _, _, hd, _⟩ := h; exact absurd hd (Nat.not_lt_zero _)
theorem rec_lbody {P : Program} {w : World} {K : PySem.W.Frag} {mg : Str → Option Value} {base : Heap} {j : Nat} (Fc : Fcts K) (T : Tb K w) (Tw' : Tw K) (G : Gx K mg) (c_Looker_begin : Met P w K mg base j (He.ga K "Looker") "begin" (sp_Looker_begin K w) []) (c_Looker_part : ∀ n, Met P w K mg base (j + n + 1) (He.ga K "Looker") "part" (sp_Looker_part n K w) []) {f : Addr} {fd : FuncData} (F : FunD K "body" "Looker.body" (defArgs s_m_Looker_body) (defBody s_m_Looker_body) (defScope s_m_Looker_body) [] [] f fd) (k : Meth K (He.ga K "Looker") "body" f) : ∀ n, Met P w K mg base (j + n + 1) (He.ga K "Looker") "body" (sp_Looker_body n K w) []
  | 0 => ⟨f, fd, ["self", "body", "deep"], [], Fc.clLooker, k, FunD.ok F sc_m_Looker_body (fun vs H Q E h => (sp0_m_Looker_body h).elim) (fun cdv A outer s H vs Q E hr h => (sp0_m_Looker_body h).elim), F.bindsN fun _ _ _ _ _ _ us hl => match us, hl with | [_, _, _], _ => rfl, .nil⟩
  | n + 1 => met_m_Looker_body n Fc T Tw' G (mono_met c_Looker_begin (by omega)) (c_Looker_part n) (rec_lbody Fc T Tw' G c_Looker_begin c_Looker_part F k n) F k
theorem sp0_m_Numberer_body {K : PySem.W.Frag} {w : World} {vs : List V} {H : Hp} {Q : VK} {E : XK} (h : sp_Numberer_body 0 K w vs H Q E) : False := by
  obtain ⟨_, _, _, _, _, _, _, _, _, _, b, _, _, _, hd, _⟩ := h; exact absurd hd (Nat.not_lt_zero _)
theorem rec_nbody {P : Program} {w : World} {K : PySem.W.Frag} {mg : Str → Option Value} {base : Heap} {j : Nat} (Fc : Fcts K) (T : Tb K w) (Tw' : Tw K) (G : Gx K mg)  {f : Addr} {fd : FuncData} (F : FunD K "body" "Numberer.body" (defArgs s_m_Numberer_body) (defBody s_m_Numberer_body) (defScope s_m_Numberer_body) [] [] f fd) (k : Meth K (He.ga K "Numberer") "body" f) : ∀ n, Met P w K mg base (j + n + 1) (He.ga K "Numberer") "body" (sp_Numberer_body n K w) []
  | 0 => ⟨f, fd, ["self", "body", "fun"], [], Fc.clNumberer, k, FunD.ok F sc_m_Numberer_body (fun vs H Q E h => (sp0_m_Numberer_body h).elim) (fun cdv A outer s H vs Q E hr h => (sp0_m_Numberer_body h).elim), F.bindsN fun _ _ _ _ _ _ us hl => match us, hl with | [_, _, _], _ => rfl, .nil⟩
  | n + 1 => met_m_Numberer_body n Fc T Tw' G (rec_nbody Fc T Tw' G  F k n) F k
theorem sp0_f_worth {K : PySem.W.Frag} {w : World} {vs : List V} {H : Hp} {Q : VK} {E : XK} (h : sp_worth 0 K w vs H Q E) : False := by
  obtain ⟨p, _, _, _, _, _, _, hd, _⟩ := h; cases p <;> simp [Pt.dp] at hd
theorem rec_worth {P : Program} {w : World} {K : PySem.W.Frag} {mg : Str → Option Value} {base : Heap} {j : Nat} (Fc : Fcts K) (T : Tb K w) (Tw' : Tw K) (G : Gx K mg) (c_reckoned : Cal P w K mg base j "reckoned" (sp_reckoned K w) []) {f : Addr} {fd : FuncData} (F : FunD K "worth" "worth" (defArgs s_f_worth) (defBody s_f_worth) (defScope s_f_worth) [] [] f fd) (m : mg "worth" = some (.ref f)) : ∀ n, Cal P w K mg base (j + n + 1) "worth" (sp_worth n K w) []
  | 0 => ⟨f, fd, ["part", "names", "cells"], [], FunD.ok F sc_f_worth (fun vs H Q E h => (sp0_f_worth h).elim) (fun cdv A outer s H vs Q E hr h => (sp0_f_worth h).elim), m, F.kp, F.bindsN fun _ _ _ _ _ _ us hl => match us, hl with | [_, _, _], _ => rfl, .nil⟩
  | n + 1 => cal_f_worth n Fc T Tw' G (rec_worth Fc T Tw' G c_reckoned F m n) (mono_cal c_reckoned (by omega)) F m
theorem sp0_f_law_part {K : PySem.W.Frag} {w : World} {vs : List V} {H : Hp} {Q : VK} {E : XK} (h : sp_law_part 0 K w vs H Q E) : False := by
  obtain ⟨_, _, _, _, _, _, _, _, hd, _⟩ := h; exact absurd hd (Nat.not_lt_zero _)
theorem rec_law_part {P : Program} {w : World} {K : PySem.W.Frag} {mg : Str → Option Value} {base : Heap} {j : Nat} (Fc : Fcts K) (T : Tb K w) (Tw' : Tw K) (G : Gx K mg) (c_law_next : Cal P w K mg base j "_law_next" (sp_law_next K w) []) {f : Addr} {fd : FuncData} (F : FunD K "_law_part" "_law_part" (defArgs s_f_law_part) (defBody s_f_law_part) (defScope s_f_law_part) [] [] f fd) (m : mg "_law_part" = some (.ref f)) : ∀ n, Cal P w K mg base (j + n + 1) "_law_part" (sp_law_part n K w) []
  | 0 => ⟨f, fd, ["_law_d", "_law_names_here", "_law_cells", "_law_deep"], [], FunD.ok F sc_f_law_part (fun vs H Q E h => (sp0_f_law_part h).elim) (fun cdv A outer s H vs Q E hr h => (sp0_f_law_part h).elim), m, F.kp, F.bindsN fun _ _ _ _ _ _ us hl => match us, hl with | [_, _, _, _], _ => rfl, .nil⟩
  | n + 1 => cal_f_law_part n Fc T Tw' G (mono_cal c_law_next (by omega)) (rec_law_part Fc T Tw' G c_law_next F m n) F m
theorem sp0_f_law_body {K : PySem.W.Frag} {w : World} {vs : List V} {H : Hp} {Q : VK} {E : XK} (h : sp_law_body 0 K w vs H Q E) : False := by
  obtain ⟨_, _, _, _, _, _, _, _, _, _, _, _, hd, _⟩ := h; exact absurd hd (Nat.not_lt_zero _)
theorem rec_law_body {P : Program} {w : World} {K : PySem.W.Frag} {mg : Str → Option Value} {base : Heap} {j : Nat} (Fc : Fcts K) (T : Tb K w) (Tw' : Tw K) (G : Gx K mg) (c_law_next : Cal P w K mg base j "_law_next" (sp_law_next K w) []) (c_law_part : Cal P w K mg base j "_law_part" (sp_law_part 4 K w) []) {f : Addr} {fd : FuncData} (F : FunD K "_law_body" "_law_body" (defArgs s_f_law_body) (defBody s_f_law_body) (defScope s_f_law_body) [] [] f fd) (m : mg "_law_body" = some (.ref f)) : ∀ n, Cal P w K mg base (j + n + 1) "_law_body" (sp_law_body n K w) []
  | 0 => ⟨f, fd, ["_law_d", "_law_s", "_law_deep", "_law_most"], [], FunD.ok F sc_f_law_body (fun vs H Q E h => (sp0_f_law_body h).elim) (fun cdv A outer s H vs Q E hr h => (sp0_f_law_body h).elim), m, F.kp, F.bindsN fun _ _ _ _ _ _ us hl => match us, hl with | [_, _, _, _], _ => rfl, .nil⟩
  | n + 1 => cal_f_law_body n Fc T Tw' G (mono_cal c_law_next (by omega)) (mono_cal c_law_part (by omega)) (rec_law_body Fc T Tw' G c_law_next c_law_part F m n) F m
theorem sp0_f_law_count {K : PySem.W.Frag} {w : World} {vs : List V} {H : Hp} {Q : VK} {E : XK} (h : sp_law_count 0 K w vs H Q E) : False := by
  obtain ⟨_, _, _, _, hd, _⟩ := h; exact absurd hd (Nat.not_lt_zero _)
theorem rec_law_count {P : Program} {w : World} {K : PySem.W.Frag} {mg : Str → Option Value} {base : Heap} {j : Nat} (Fc : Fcts K) (T : Tb K w) (Tw' : Tw K) (G : Gx K mg)  {f : Addr} {fd : FuncData} (F : FunD K "_law_count" "_law_count" (defArgs s_f_law_count) (defBody s_f_law_count) (defScope s_f_law_count) [] [] f fd) (m : mg "_law_count" = some (.ref f)) : ∀ n, Cal P w K mg base (j + n + 1) "_law_count" (sp_law_count n K w) []
  | 0 => ⟨f, fd, ["_law_thing"], [], FunD.ok F sc_f_law_count (fun vs H Q E h => (sp0_f_law_count h).elim) (fun cdv A outer s H vs Q E hr h => (sp0_f_law_count h).elim), m, F.kp, F.bindsN fun _ _ _ _ _ _ us hl => match us, hl with | [_], _ => rfl, .nil⟩
  | n + 1 => cal_f_law_count n Fc T Tw' G (rec_law_count Fc T Tw' G  F m n) F m
end SD
set_option Elab.async false
set_option linter.all false
set_option maxRecDepth 100000
set_option maxHeartbeats 0
namespace SD
open PySem PySem.Spec PyProof.Rows L2
open C8 (Cal Met Mak pe_c pe_mk pe_mt pe_mt0 pe_gc)
open Hd
theorem gx_of {w : World} {K : PySem.W.Frag} {h : Heap} {mg : Str → Option Value} (X : K.In h) (G : h.Ns mainGlobals mg) (c : He.SaysX fa fn ts [] exb w h K) : Gx K mg where
  c_REST := by obtain ⟨t, e⟩ := He.int_ok X G (c.t.d.fact 95 (f := .int "REST" 10007) rfl); exact ⟨_, e, t, rfl⟩
  c_MOST_CELLS := by obtain ⟨t, e⟩ := He.int_ok X G (c.t.d.fact 96 (f := .int "MOST_CELLS" 8) rfl); exact ⟨_, e, t, rfl⟩
  c_MOST_FUNS := by obtain ⟨t, e⟩ := He.int_ok X G (c.t.d.fact 97 (f := .int "MOST_FUNS" 4) rfl); exact ⟨_, e, t, rfl⟩
  c_MOST_HANDS := by obtain ⟨t, e⟩ := He.int_ok X G (c.t.d.fact 98 (f := .int "MOST_HANDS" 3) rfl); exact ⟨_, e, t, rfl⟩
  c_MOST_NAMES := by obtain ⟨t, e⟩ := He.int_ok X G (c.t.d.fact 99 (f := .int "MOST_NAMES" 4) rfl); exact ⟨_, e, t, rfl⟩
  c_MOST_THINGS := by obtain ⟨t, e⟩ := He.int_ok X G (c.t.d.fact 100 (f := .int "MOST_THINGS" 100) rfl); exact ⟨_, e, t, rfl⟩
  c_MOST_DEEP := by obtain ⟨t, e⟩ := He.int_ok X G (c.t.d.fact 101 (f := .int "MOST_DEEP" 8) rfl); exact ⟨_, e, t, rfl⟩
  c_TIMES := by obtain ⟨t, e⟩ := He.int_ok X G (c.t.d.fact 102 (f := .int "TIMES" 10) rfl); exact ⟨_, e, t, rfl⟩
  c_PARTS := ⟨_, He.glo_ok X G (c.t.d.fact 103 (f := .glo "PARTS") rfl), rfl⟩
  c_TWO := ⟨_, He.glo_ok X G (c.t.d.fact 104 (f := .glo "TWO") rfl), rfl⟩
  c_DEEDS := ⟨_, He.glo_ok X G (c.t.d.fact 105 (f := .glo "DEEDS") rfl), rfl⟩
  c_MOST_FRAMES := by obtain ⟨t, e⟩ := He.int_ok X G (c.t.d.fact 106 (f := .int "MOST_FRAMES" 20) rfl); exact ⟨_, e, t, rfl⟩
  c_MOST_DEEDS := by obtain ⟨t, e⟩ := He.int_ok X G (c.t.d.fact 107 (f := .int "MOST_DEEDS" 2000) rfl); exact ⟨_, e, t, rfl⟩
  c_MOST_STOPS := by obtain ⟨t, e⟩ := He.int_ok X G (c.t.d.fact 108 (f := .int "MOST_STOPS" 20) rfl); exact ⟨_, e, t, rfl⟩
  c_WAYS := ⟨_, He.glo_ok X G (c.t.d.fact 109 (f := .glo "WAYS") rfl), rfl⟩
  n_len := He.free_ok X G (c.t.d.fact 110 (f := .free "len") rfl)
  n_zip := He.free_ok X G (c.t.d.fact 111 (f := .free "zip") rfl)
  n_isinstance := He.free_ok X G (c.t.d.fact 112 (f := .free "isinstance") rfl)
  n_range := He.free_ok X G (c.t.d.fact 113 (f := .free "range") rfl)
  n_enumerate := He.free_ok X G (c.t.d.fact 114 (f := .free "enumerate") rfl)
  n_int := He.free_ok X G (c.t.d.fact 115 (f := .free "int") rfl)
  n_list := He.free_ok X G (c.t.d.fact 116 (f := .free "list") rfl)
  n_sorted := He.free_ok X G (c.t.d.fact 117 (f := .free "sorted") rfl)
  n_tuple := He.free_ok X G (c.t.d.fact 118 (f := .free "tuple") rfl)
  n_str := He.free_ok X G (c.t.d.fact 119 (f := .free "str") rfl)
  n_bool := He.free_ok X G (c.t.d.fact 120 (f := .free "bool") rfl)
  n_sum := He.free_ok X G (c.t.d.fact 121 (f := .free "sum") rfl)
  n_max := He.free_ok X G (c.t.d.fact 122 (f := .free "max") rfl)
  n_min := He.free_ok X G (c.t.d.fact 123 (f := .free "min") rfl)
theorem fc_of {w : World} {K : PySem.W.Frag} {h : Heap} {mg : Str → Option Value} (X : K.In h) (G : h.Ns mainGlobals mg) (c : He.SaysX fa fn ts [] exb w h K) : Fcts K where
  clLooker := He.cls_ok (c.t.d.fact 19 (f := .cls "Looker") rfl)
  naLooker_many := He.noat_ok (c.t.d.fact 21 (f := .noat "Looker" "many") rfl)
  naLooker_params := He.noat_ok (c.t.d.fact 22 (f := .noat "Looker" "params") rfl)
  naLooker_names := He.noat_ok (c.t.d.fact 23 (f := .noat "Looker" "names") rfl)
  naLooker_seen := He.noat_ok (c.t.d.fact 24 (f := .noat "Looker" "seen") rfl)
  clNumberer := He.cls_ok (c.t.d.fact 30 (f := .cls "Numberer") rfl)
  naNumberer_count := He.noat_ok (c.t.d.fact 32 (f := .noat "Numberer" "count") rfl)
  naNumberer_funs := He.noat_ok (c.t.d.fact 33 (f := .noat "Numberer" "funs") rfl)
  clFrame := He.cls_ok (c.t.d.fact 36 (f := .cls "Frame") rfl)
  naFrame_fun := He.noat_ok (c.t.d.fact 38 (f := .noat "Frame" "fun") rfl)
  naFrame_names := He.noat_ok (c.t.d.fact 39 (f := .noat "Frame" "names") rfl)
  naFrame_todo := He.noat_ok (c.t.d.fact 40 (f := .noat "Frame" "todo") rfl)
  naFrame_at := He.noat_ok (c.t.d.fact 41 (f := .noat "Frame" "at") rfl)
  clMachine := He.cls_ok (c.t.d.fact 43 (f := .cls "Machine") rfl)
  naMachine_bodies := He.noat_ok (c.t.d.fact 45 (f := .noat "Machine" "bodies") rfl)
  naMachine_heads := He.noat_ok (c.t.d.fact 46 (f := .noat "Machine" "heads") rfl)
  naMachine_held := He.noat_ok (c.t.d.fact 47 (f := .noat "Machine" "held") rfl)
  naMachine_hands := He.noat_ok (c.t.d.fact 48 (f := .noat "Machine" "hands") rfl)
  naMachine_whose := He.noat_ok (c.t.d.fact 49 (f := .noat "Machine" "whose") rfl)
  naMachine_talk := He.noat_ok (c.t.d.fact 50 (f := .noat "Machine" "talk") rfl)
  naMachine_done := He.noat_ok (c.t.d.fact 51 (f := .noat "Machine" "done") rfl)
  clWatched := He.cls_ok (c.t.d.fact 63 (f := .cls "Watched") rfl)
  naWatched_program := He.noat_ok (c.t.d.fact 65 (f := .noat "Watched" "program") rfl)
  naWatched_funs := He.noat_ok (c.t.d.fact 66 (f := .noat "Watched" "funs") rfl)
  naWatched_machine := He.noat_ok (c.t.d.fact 67 (f := .noat "Watched" "machine") rfl)
  naWatched_stops := He.noat_ok (c.t.d.fact 68 (f := .noat "Watched" "stops") rfl)
  naWatched_made := He.noat_ok (c.t.d.fact 69 (f := .noat "Watched" "made") rfl)
  naWatched_goal := He.noat_ok (c.t.d.fact 70 (f := .noat "Watched" "goal") rfl)
  naWatched_left := He.noat_ok (c.t.d.fact 71 (f := .noat "Watched" "left") rfl)
  naWatched_first := He.noat_ok (c.t.d.fact 72 (f := .noat "Watched" "first") rfl)
  naWatched_moved := He.noat_ok (c.t.d.fact 73 (f := .noat "Watched" "moved") rfl)
theorem tb_of {w : World} {K : PySem.W.Frag} {h : Heap} {mg : Str → Option Value} (X : K.In h) (G : h.Ns mainGlobals mg) (c : He.SaysX fa fn ts [] exb w h K) : Tb K w where
  deeds := ktab_of (kvs := [("set", .str "kx"), ("put", .str "cx"), ("say", .str "x"), ("if", .str "xbb"), ("again", .str "xb"), ("call", .str "fpk"), ("return", .str "x")]) (saysT_tab c.t 1) (He.ba (He.ba (He.ba (show exb K = true from c.more)).2).2).1
  parts := ktab_of (kvs := [("num", .str "n"), ("name", .str "k"), ("cell", .str "c")]) (saysT_tab c.t 0) (He.ba (show exb K = true from c.more)).1
  two := fun H => He.tupB_ok (He.ba (He.ba (show exb K = true from c.more)).2).1 H
theorem tw_of {w : World} {K : PySem.W.Frag} {h : Heap} {mg : Str → Option Value} (X : K.In h) (G : h.Ns mainGlobals mg) (c : He.SaysX fa fn ts [] exb w h K) : Tw K where
  ways := fun H => He.tupB_ok (He.ba (He.ba (He.ba (show exb K = true from c.more)).2).2).2 H
theorem facts {P : Program} {w : World} {K : PySem.W.Frag} {h : Heap} {mg : Str → Option Value} {f : Addr} (X : K.In h) (G : h.Ns mainGlobals mg) (hfa : mg ("law" : Str) = some (.ref f)) (c : He.SaysX fa fn ts [] exb w h K) :
    ∃ fd : FuncData, (∀ (s : Shared) (v : Value), BindsTo s fd ⟨[v], []⟩ [("_law_script", v)]) ∧ ∀ base : Heap, K.In base → base.Ns mainGlobals mg → FnOk P w K mg base CX0 23 f fd ["_law_script"] (sp_law K w) := by
  have Fc := fc_of X G c
  have Gg := gx_of X G c
  have T := tb_of X G c
  have Tw' := tw_of X G c
  obtain ⟨fd_f_law_dice, F_f_law_dice⟩ := c.t.d.def_ 52 (d := d_f_law_dice) rfl
  obtain ⟨fd_f_law_next, F_f_law_next⟩ := c.t.d.def_ 53 (d := d_f_law_next) rfl
  obtain ⟨fd_f_law_part, F_f_law_part⟩ := c.t.d.def_ 54 (d := d_f_law_part) rfl
  obtain ⟨fd_f_law_body, F_f_law_body⟩ := c.t.d.def_ 55 (d := d_f_law_body) rfl
  obtain ⟨fd_f_law_count, F_f_law_count⟩ := c.t.d.def_ 56 (d := d_f_law_count) rfl
  obtain ⟨fd_f_law_program, F_f_law_program⟩ := c.t.d.def_ 57 (d := d_f_law_program) rfl
  obtain ⟨fd_f_need_head, F_f_need_head⟩ := c.t.d.def_ 7 (d := d_f_need_head) rfl
  obtain ⟨fd_m_Looker_init, F_m_Looker_init⟩ := c.t.d.def_ 2 (d := d_m_Looker_init) rfl
  obtain ⟨fd_f_is_number, F_f_is_number⟩ := c.t.d.def_ 1 (d := d_f_is_number) rfl
  obtain ⟨fd_m_Looker_bounds, F_m_Looker_bounds⟩ := c.t.d.def_ 4 (d := d_m_Looker_bounds) rfl
  obtain ⟨fd_m_Looker_begin, F_m_Looker_begin⟩ := c.t.d.def_ 3 (d := d_m_Looker_begin) rfl
  obtain ⟨fd_m_Looker_part, F_m_Looker_part⟩ := c.t.d.def_ 5 (d := d_m_Looker_part) rfl
  obtain ⟨fd_m_Looker_body, F_m_Looker_body⟩ := c.t.d.def_ 6 (d := d_m_Looker_body) rfl
  obtain ⟨fd_f_need_program, F_f_need_program⟩ := c.t.d.def_ 8 (d := d_f_need_program) rfl
  obtain ⟨fd_m_Numberer_init, F_m_Numberer_init⟩ := c.t.d.def_ 10 (d := d_m_Numberer_init) rfl
  obtain ⟨fd_m_Numberer_body, F_m_Numberer_body⟩ := c.t.d.def_ 11 (d := d_m_Numberer_body) rfl
  obtain ⟨fd_f_numbered, F_f_numbered⟩ := c.t.d.def_ 12 (d := d_f_numbered) rfl
  obtain ⟨fd_m_Frame_init, F_m_Frame_init⟩ := c.t.d.def_ 15 (d := d_m_Frame_init) rfl
  obtain ⟨fd_m_Machine_frame, F_m_Machine_frame⟩ := c.t.d.def_ 17 (d := d_m_Machine_frame) rfl
  obtain ⟨fd_m_Machine_back, F_m_Machine_back⟩ := c.t.d.def_ 20 (d := d_m_Machine_back) rfl
  obtain ⟨fd_m_Machine_unfold, F_m_Machine_unfold⟩ := c.t.d.def_ 19 (d := d_m_Machine_unfold) rfl
  obtain ⟨fd_m_Machine_settle, F_m_Machine_settle⟩ := c.t.d.def_ 18 (d := d_m_Machine_settle) rfl
  obtain ⟨fd_m_Machine_seek, F_m_Machine_seek⟩ := c.t.d.def_ 21 (d := d_m_Machine_seek) rfl
  obtain ⟨fd_m_Machine_init, F_m_Machine_init⟩ := c.t.d.def_ 16 (d := d_m_Machine_init) rfl
  obtain ⟨fd_m_Watched_init, F_m_Watched_init⟩ := c.t.d.def_ 29 (d := d_m_Watched_init) rfl
  obtain ⟨fd_f_need_number, F_f_need_number⟩ := c.t.d.def_ 51 (d := d_f_need_number) rfl
  obtain ⟨fd_m_Watched_put, F_m_Watched_put⟩ := c.t.d.def_ 47 (d := d_m_Watched_put) rfl
  obtain ⟨fd_m_Machine_is_over, F_m_Machine_is_over⟩ := c.t.d.def_ 22 (d := d_m_Machine_is_over) rfl
  obtain ⟨fd_m_Watched_is_over, F_m_Watched_is_over⟩ := c.t.d.def_ 50 (d := d_m_Watched_is_over) rfl
  obtain ⟨fd_f_need_count, F_f_need_count⟩ := c.t.d.def_ 27 (d := d_f_need_count) rfl
  obtain ⟨fd_m_Watched_need_go, F_m_Watched_need_go⟩ := c.t.d.def_ 40 (d := d_m_Watched_need_go) rfl
  obtain ⟨fd_m_Watched_begin, F_m_Watched_begin⟩ := c.t.d.def_ 36 (d := d_m_Watched_begin) rfl
  obtain ⟨fd_m_Machine_next_place, F_m_Machine_next_place⟩ := c.t.d.def_ 23 (d := d_m_Machine_next_place) rfl
  obtain ⟨fd_f_reckoned, F_f_reckoned⟩ := c.t.d.def_ 13 (d := d_f_reckoned) rfl
  obtain ⟨fd_f_worth, F_f_worth⟩ := c.t.d.def_ 14 (d := d_f_worth) rfl
  obtain ⟨fd_m_Watched_met, F_m_Watched_met⟩ := c.t.d.def_ 33 (d := d_m_Watched_met) rfl
  obtain ⟨fd_m_Watched_is_reached, F_m_Watched_is_reached⟩ := c.t.d.def_ 34 (d := d_m_Watched_is_reached) rfl
  obtain ⟨fd_m_Watched_event, F_m_Watched_event⟩ := c.t.d.def_ 35 (d := d_m_Watched_event) rfl
  obtain ⟨fd_m_Machine_call, F_m_Machine_call⟩ := c.t.d.def_ 26 (d := d_m_Machine_call) rfl
  obtain ⟨fd_m_Machine_do, F_m_Machine_do⟩ := c.t.d.def_ 25 (d := d_m_Machine_do) rfl
  obtain ⟨fd_m_Machine_deed, F_m_Machine_deed⟩ := c.t.d.def_ 24 (d := d_m_Machine_deed) rfl
  obtain ⟨fd_m_Watched_on, F_m_Watched_on⟩ := c.t.d.def_ 37 (d := d_m_Watched_on) rfl
  obtain ⟨fd_m_Watched_finish, F_m_Watched_finish⟩ := c.t.d.def_ 38 (d := d_m_Watched_finish) rfl
  obtain ⟨fd_m_Watched_go, F_m_Watched_go⟩ := c.t.d.def_ 39 (d := d_m_Watched_go) rfl
  obtain ⟨fd_f_plain, F_f_plain⟩ := c.t.d.def_ 28 (d := d_f_plain) rfl
  obtain ⟨fd_m_Watched_said, F_m_Watched_said⟩ := c.t.d.def_ 49 (d := d_m_Watched_said) rfl
  obtain ⟨fd_m_Watched_cells, F_m_Watched_cells⟩ := c.t.d.def_ 48 (d := d_m_Watched_cells) rfl
  obtain ⟨fd_m_Watched_need_hand, F_m_Watched_need_hand⟩ := c.t.d.def_ 30 (d := d_m_Watched_need_hand) rfl
  obtain ⟨fd_m_Watched_stack, F_m_Watched_stack⟩ := c.t.d.def_ 43 (d := d_m_Watched_stack) rfl
  obtain ⟨fd_m_Watched_frame, F_m_Watched_frame⟩ := c.t.d.def_ 44 (d := d_m_Watched_frame) rfl
  obtain ⟨fd_m_Watched_look, F_m_Watched_look⟩ := c.t.d.def_ 45 (d := d_m_Watched_look) rfl
  obtain ⟨fd_f_law_names, F_f_law_names⟩ := c.t.d.def_ 58 (d := d_f_law_names) rfl
  obtain ⟨fd_m_Watched_change, F_m_Watched_change⟩ := c.t.d.def_ 46 (d := d_m_Watched_change) rfl
  obtain ⟨fd_f_law, F_f_law⟩ := c.t.d.def_ 59 (d := d_f_law) rfl
  have e := hfa.symm.trans (He.glo_ok X G (c.t.d.fact 17 (f := .glo "law") rfl))
  cases e
  have b := FunD.bindsA (ps := ["_law_script"]) F_f_law fun _ _ _ _ _ _ us hl => match us, hl with | [_], _ => rfl
  refine ⟨fd_f_law, fun s v => b s [v] rfl, fun base _ _ => ?_⟩
  have c_f_law_dice := cal_f_law_dice (P := P) (w := w) (mg := mg) (base := base) (j := 0) Fc T Tw' Gg  F_f_law_dice (He.glo_ok X G (c.t.d.fact 10 (f := .glo "_law_dice") rfl))
  have c_f_law_next := cal_f_law_next (P := P) (w := w) (mg := mg) (base := base) (j := 0) Fc T Tw' Gg  F_f_law_next (He.glo_ok X G (c.t.d.fact 11 (f := .glo "_law_next") rfl))
  have c_f_law_part := rec_law_part (P := P) (w := w) (mg := mg) (base := base) (j := 1) Fc T Tw' Gg (mono_cal c_f_law_next (by decide)) F_f_law_part (He.glo_ok X G (c.t.d.fact 12 (f := .glo "_law_part") rfl))
  have c_f_law_body := rec_law_body (P := P) (w := w) (mg := mg) (base := base) (j := 6) Fc T Tw' Gg (mono_cal c_f_law_next (by decide)) (mono_cal (c_f_law_part 4) (by decide)) F_f_law_body (He.glo_ok X G (c.t.d.fact 13 (f := .glo "_law_body") rfl))
  have c_f_law_count := rec_law_count (P := P) (w := w) (mg := mg) (base := base) (j := 0) Fc T Tw' Gg  F_f_law_count (He.glo_ok X G (c.t.d.fact 14 (f := .glo "_law_count") rfl))
  have c_f_law_program := cal_f_law_program (P := P) (w := w) (mg := mg) (base := base) (j := 21) Fc T Tw' Gg (mono_cal c_f_law_next (by decide)) (mono_cal (c_f_law_body 5) (by decide)) (mono_cal (c_f_law_count 20) (by decide)) F_f_law_program (He.glo_ok X G (c.t.d.fact 15 (f := .glo "_law_program") rfl))
  have c_f_need_head := cal_f_need_head (P := P) (w := w) (mg := mg) (base := base) (j := 0) Fc T Tw' Gg  F_f_need_head (He.glo_ok X G (c.t.d.fact 1 (f := .glo "need_head") rfl))
  have c_m_Looker_init := mak_m_Looker_init (P := P) (w := w) (mg := mg) (base := base) (j := 0) Fc T Tw' Gg  F_m_Looker_init (He.mkr_ok (c.t.d.fact 20 (f := .mkr "Looker") rfl)) (He.glo_ok X G (c.t.d.fact 18 (f := .glo "Looker") rfl))
  have c_f_is_number := cal_f_is_number (P := P) (w := w) (mg := mg) (base := base) (j := 0) Fc T Tw' Gg  F_f_is_number (He.glo_ok X G (c.t.d.fact 0 (f := .glo "is_number") rfl))
  have c_m_Looker_bounds := met_m_Looker_bounds (P := P) (w := w) (mg := mg) (base := base) (j := 0) Fc T Tw' Gg  F_m_Looker_bounds (He.meth_ok (c.t.d.fact 26 (f := .meth "Looker" "bounds") rfl))
  have c_m_Looker_begin := met_m_Looker_begin (P := P) (w := w) (mg := mg) (base := base) (j := 1) Fc T Tw' Gg (mono_cal c_f_is_number (by decide)) (mono_met c_m_Looker_bounds (by decide)) F_m_Looker_begin (He.meth_ok (c.t.d.fact 25 (f := .meth "Looker" "begin") rfl))
  have c_m_Looker_part := rec_part (P := P) (w := w) (mg := mg) (base := base) (j := 2) Fc T Tw' Gg (mono_met c_m_Looker_begin (by decide)) F_m_Looker_part (He.meth_ok (c.t.d.fact 27 (f := .meth "Looker" "part") rfl))
  have c_m_Looker_body := rec_lbody (P := P) (w := w) (mg := mg) (base := base) (j := 2) Fc T Tw' Gg (mono_met c_m_Looker_begin (by decide)) (fun n => mono_met (c_m_Looker_part n) (by have := n; omega)) F_m_Looker_body (He.meth_ok (c.t.d.fact 28 (f := .meth "Looker" "body") rfl))
  have c_f_need_program := cal_f_need_program (P := P) (w := w) (mg := mg) (base := base) (j := 12) Fc T Tw' Gg (mono_cal c_f_need_head (by decide)) (by decide) c_m_Looker_init (mono_met (c_m_Looker_body 9) (by decide)) F_f_need_program (He.glo_ok X G (c.t.d.fact 2 (f := .glo "need_program") rfl))
  have c_m_Numberer_init := mak_m_Numberer_init (P := P) (w := w) (mg := mg) (base := base) (j := 0) Fc T Tw' Gg  F_m_Numberer_init (He.mkr_ok (c.t.d.fact 31 (f := .mkr "Numberer") rfl)) (He.glo_ok X G (c.t.d.fact 29 (f := .glo "Numberer") rfl))
  have c_m_Numberer_body := rec_nbody (P := P) (w := w) (mg := mg) (base := base) (j := 0) Fc T Tw' Gg  F_m_Numberer_body (He.meth_ok (c.t.d.fact 34 (f := .meth "Numberer" "body") rfl))
  have c_f_numbered := cal_f_numbered (P := P) (w := w) (mg := mg) (base := base) (j := 10) Fc T Tw' Gg (by decide) c_m_Numberer_init (mono_met (c_m_Numberer_body 9) (by decide)) F_f_numbered (He.glo_ok X G (c.t.d.fact 4 (f := .glo "numbered") rfl))
  have c_m_Frame_init := mak_m_Frame_init (P := P) (w := w) (mg := mg) (base := base) (j := 0) Fc T Tw' Gg  F_m_Frame_init (He.mkr_ok (c.t.d.fact 37 (f := .mkr "Frame") rfl)) (He.glo_ok X G (c.t.d.fact 35 (f := .glo "Frame") rfl))
  have c_m_Machine_frame := met_m_Machine_frame (P := P) (w := w) (mg := mg) (base := base) (j := 2) Fc T Tw' Gg (by decide) c_m_Frame_init F_m_Machine_frame (He.meth_ok (c.t.d.fact 52 (f := .meth "Machine" "frame") rfl))
  have c_m_Machine_back := met_m_Machine_back (P := P) (w := w) (mg := mg) (base := base) (j := 0) Fc T Tw' Gg  F_m_Machine_back (He.meth_ok (c.t.d.fact 55 (f := .meth "Machine" "back") rfl))
  have c_m_Machine_unfold := met_m_Machine_unfold (P := P) (w := w) (mg := mg) (base := base) (j := 0) Fc T Tw' Gg  F_m_Machine_unfold (He.meth_ok (c.t.d.fact 54 (f := .meth "Machine" "unfold") rfl))
  have c_m_Machine_settle := met_m_Machine_settle (P := P) (w := w) (mg := mg) (base := base) (j := 1) Fc T Tw' Gg (mono_met c_m_Machine_back (by decide)) (mono_met c_m_Machine_unfold (by decide)) F_m_Machine_settle (He.meth_ok (c.t.d.fact 53 (f := .meth "Machine" "settle") rfl))
  have c_m_Machine_seek := met_m_Machine_seek (P := P) (w := w) (mg := mg) (base := base) (j := 0) Fc T Tw' Gg  F_m_Machine_seek (He.meth_ok (c.t.d.fact 56 (f := .meth "Machine" "seek") rfl))
  have c_m_Machine_init := mak_m_Machine_init (P := P) (w := w) (mg := mg) (base := base) (j := 11) Fc T Tw' Gg (mono_cal c_f_numbered (by decide)) (mono_met c_m_Machine_frame (by decide)) (mono_met c_m_Machine_settle (by decide)) (mono_met c_m_Machine_seek (by decide)) F_m_Machine_init (He.mkr_ok (c.t.d.fact 44 (f := .mkr "Machine") rfl)) (He.glo_ok X G (c.t.d.fact 42 (f := .glo "Machine") rfl))
  have c_m_Watched_init := mak_m_Watched_init (P := P) (w := w) (mg := mg) (base := base) (j := 13) Fc T Tw' Gg (mono_cal c_f_need_program (by decide)) (mono_cal c_f_numbered (by decide)) (by decide) c_m_Machine_init F_m_Watched_init (He.mkr_ok (c.t.d.fact 64 (f := .mkr "Watched") rfl)) (He.glo_ok X G (c.t.d.fact 62 (f := .glo "Watched") rfl))
  have c_f_need_number := cal_f_need_number (P := P) (w := w) (mg := mg) (base := base) (j := 1) Fc T Tw' Gg (mono_cal c_f_is_number (by decide)) F_f_need_number (He.glo_ok X G (c.t.d.fact 9 (f := .glo "need_number") rfl))
  have c_m_Watched_put := met_m_Watched_put (P := P) (w := w) (mg := mg) (base := base) (j := 2) Fc T Tw' Gg (mono_cal c_f_is_number (by decide)) (mono_cal c_f_need_number (by decide)) F_m_Watched_put (He.meth_ok (c.t.d.fact 91 (f := .meth "Watched" "put") rfl))
  have c_m_Machine_is_over := met_m_Machine_is_over (P := P) (w := w) (mg := mg) (base := base) (j := 0) Fc T Tw' Gg  F_m_Machine_is_over (He.meth_ok (c.t.d.fact 57 (f := .meth "Machine" "is_over") rfl))
  have c_m_Watched_is_over := met_m_Watched_is_over (P := P) (w := w) (mg := mg) (base := base) (j := 1) Fc T Tw' Gg (mono_met c_m_Machine_is_over (by decide)) F_m_Watched_is_over (He.meth_ok (c.t.d.fact 94 (f := .meth "Watched" "is_over") rfl))
  have c_f_need_count := cal_f_need_count (P := P) (w := w) (mg := mg) (base := base) (j := 0) Fc T Tw' Gg  F_f_need_count (He.glo_ok X G (c.t.d.fact 7 (f := .glo "need_count") rfl))
  have c_m_Watched_need_go := met_m_Watched_need_go (P := P) (w := w) (mg := mg) (base := base) (j := 1) Fc T Tw' Gg (mono_cal c_f_need_count (by decide)) (mono_met c_m_Machine_is_over (by decide)) F_m_Watched_need_go (He.meth_ok (c.t.d.fact 84 (f := .meth "Watched" "need_go") rfl))
  have c_m_Watched_begin := met_m_Watched_begin (P := P) (w := w) (mg := mg) (base := base) (j := 0) Fc T Tw' Gg  F_m_Watched_begin (He.meth_ok (c.t.d.fact 80 (f := .meth "Watched" "begin") rfl))
  have c_m_Machine_next_place := met_m_Machine_next_place (P := P) (w := w) (mg := mg) (base := base) (j := 0) Fc T Tw' Gg  F_m_Machine_next_place (He.meth_ok (c.t.d.fact 58 (f := .meth "Machine" "next_place") rfl))
  have c_f_reckoned := cal_f_reckoned (P := P) (w := w) (mg := mg) (base := base) (j := 0) Fc T Tw' Gg  F_f_reckoned (He.glo_ok X G (c.t.d.fact 5 (f := .glo "reckoned") rfl))
  have c_f_worth := rec_worth (P := P) (w := w) (mg := mg) (base := base) (j := 1) Fc T Tw' Gg (mono_cal c_f_reckoned (by decide)) F_f_worth (He.glo_ok X G (c.t.d.fact 6 (f := .glo "worth") rfl))
  have c_m_Watched_met := met_m_Watched_met (P := P) (w := w) (mg := mg) (base := base) (j := 10) Fc T Tw' Gg (mono_met c_m_Machine_next_place (by decide)) (mono_cal (c_f_worth 8) (by decide)) F_m_Watched_met (He.meth_ok (c.t.d.fact 77 (f := .meth "Watched" "met") rfl))
  have c_m_Watched_is_reached := met_m_Watched_is_reached (P := P) (w := w) (mg := mg) (base := base) (j := 0) Fc T Tw' Gg  F_m_Watched_is_reached (He.meth_ok (c.t.d.fact 78 (f := .meth "Watched" "is_reached") rfl))
  have c_m_Watched_event := met_m_Watched_event (P := P) (w := w) (mg := mg) (base := base) (j := 11) Fc T Tw' Gg (mono_met c_m_Machine_is_over (by decide)) (mono_met c_m_Watched_met (by decide)) (mono_met c_m_Machine_next_place (by decide)) (mono_met c_m_Watched_is_reached (by decide)) F_m_Watched_event (He.meth_ok (c.t.d.fact 79 (f := .meth "Watched" "event") rfl))
  have c_m_Machine_call := met_m_Machine_call (P := P) (w := w) (mg := mg) (base := base) (j := 10) Fc T Tw' Gg (mono_cal (c_f_worth 8) (by decide)) (mono_met c_m_Machine_frame (by decide)) F_m_Machine_call (He.meth_ok (c.t.d.fact 61 (f := .meth "Machine" "call") rfl))
  have c_m_Machine_do := met_m_Machine_do (P := P) (w := w) (mg := mg) (base := base) (j := 11) Fc T Tw' Gg (mono_met c_m_Machine_call (by decide)) (mono_cal (c_f_worth 8) (by decide)) (mono_met c_m_Machine_back (by decide)) F_m_Machine_do (He.meth_ok (c.t.d.fact 60 (f := .meth "Machine" "do") rfl))
  have c_m_Machine_deed := met_m_Machine_deed (P := P) (w := w) (mg := mg) (base := base) (j := 12) Fc T Tw' Gg (mono_met c_m_Machine_do (by decide)) (mono_met c_m_Machine_settle (by decide)) (mono_met c_m_Machine_seek (by decide)) F_m_Machine_deed (He.meth_ok (c.t.d.fact 59 (f := .meth "Machine" "deed") rfl))
  have c_m_Watched_on := met_m_Watched_on (P := P) (w := w) (mg := mg) (base := base) (j := 13) Fc T Tw' Gg (mono_met c_m_Watched_event (by decide)) (mono_met c_m_Machine_deed (by decide)) F_m_Watched_on (He.meth_ok (c.t.d.fact 81 (f := .meth "Watched" "on") rfl))
  have c_m_Watched_finish := met_m_Watched_finish (P := P) (w := w) (mg := mg) (base := base) (j := 14) Fc T Tw' Gg (mono_met c_m_Watched_on (by decide)) F_m_Watched_finish (He.meth_ok (c.t.d.fact 82 (f := .meth "Watched" "finish") rfl))
  have c_m_Watched_go := met_m_Watched_go (P := P) (w := w) (mg := mg) (base := base) (j := 15) Fc T Tw' Gg (mono_met c_m_Watched_need_go (by decide)) (mono_met c_m_Watched_begin (by decide)) (mono_met c_m_Watched_finish (by decide)) F_m_Watched_go (He.meth_ok (c.t.d.fact 83 (f := .meth "Watched" "go") rfl))
  have c_f_plain := cal_f_plain (P := P) (w := w) (mg := mg) (base := base) (j := 13) Fc T Tw' Gg (mono_cal c_f_need_program (by decide)) (mono_cal c_f_need_count (by decide)) (by decide) c_m_Machine_init (mono_met c_m_Machine_is_over (by decide)) (mono_met c_m_Machine_deed (by decide)) F_f_plain (He.glo_ok X G (c.t.d.fact 8 (f := .glo "plain") rfl))
  have c_m_Watched_said := met_m_Watched_said (P := P) (w := w) (mg := mg) (base := base) (j := 0) Fc T Tw' Gg  F_m_Watched_said (He.meth_ok (c.t.d.fact 93 (f := .meth "Watched" "said") rfl))
  have c_m_Watched_cells := met_m_Watched_cells (P := P) (w := w) (mg := mg) (base := base) (j := 0) Fc T Tw' Gg  F_m_Watched_cells (He.meth_ok (c.t.d.fact 92 (f := .meth "Watched" "cells") rfl))
  have c_m_Watched_need_hand := met_m_Watched_need_hand (P := P) (w := w) (mg := mg) (base := base) (j := 1) Fc T Tw' Gg (mono_cal c_f_is_number (by decide)) F_m_Watched_need_hand (He.meth_ok (c.t.d.fact 74 (f := .meth "Watched" "need_hand") rfl))
  have c_m_Watched_stack := met_m_Watched_stack (P := P) (w := w) (mg := mg) (base := base) (j := 2) Fc T Tw' Gg (mono_met c_m_Watched_need_hand (by decide)) (mono_met c_m_Machine_next_place (by decide)) F_m_Watched_stack (He.meth_ok (c.t.d.fact 87 (f := .meth "Watched" "stack") rfl))
  have c_m_Watched_frame := met_m_Watched_frame (P := P) (w := w) (mg := mg) (base := base) (j := 2) Fc T Tw' Gg (mono_met c_m_Watched_need_hand (by decide)) (mono_cal c_f_is_number (by decide)) F_m_Watched_frame (He.meth_ok (c.t.d.fact 88 (f := .meth "Watched" "frame") rfl))
  have c_m_Watched_look := met_m_Watched_look (P := P) (w := w) (mg := mg) (base := base) (j := 3) Fc T Tw' Gg (mono_met c_m_Watched_frame (by decide)) F_m_Watched_look (He.meth_ok (c.t.d.fact 89 (f := .meth "Watched" "look") rfl))
  have c_f_law_names := cal_f_law_names (P := P) (w := w) (mg := mg) (base := base) (j := 4) Fc T Tw' Gg (mono_met c_m_Watched_stack (by decide)) (mono_met c_m_Watched_look (by decide)) F_f_law_names (He.glo_ok X G (c.t.d.fact 16 (f := .glo "_law_names") rfl))
  have c_m_Watched_change := met_m_Watched_change (P := P) (w := w) (mg := mg) (base := base) (j := 3) Fc T Tw' Gg (mono_met c_m_Watched_frame (by decide)) (mono_cal c_f_is_number (by decide)) (mono_cal c_f_need_number (by decide)) F_m_Watched_change (He.meth_ok (c.t.d.fact 90 (f := .meth "Watched" "change") rfl))
  exact ok_law (j := 22) Fc T Tw' Gg (mono_cal c_f_law_dice (by decide)) (mono_cal c_f_law_program (by decide)) (mono_cal c_f_law_next (by decide)) (by decide) c_m_Watched_init (mono_met c_m_Watched_put (by decide)) (mono_met c_m_Watched_is_over (by decide)) (mono_met c_m_Watched_go (by decide)) (mono_cal c_f_plain (by decide)) (mono_met c_m_Watched_said (by decide)) (mono_met c_m_Watched_cells (by decide)) (mono_cal c_f_law_names (by decide)) (mono_met c_m_Watched_change (by decide)) F_f_law
end SD
open PySem PySem.W PySem.Calls PyProof.Rows
set_option maxRecDepth 100000 in
set_option maxHeartbeats 0 in
theorem PySem.Challenge.cw_stopdesk_k07_whole_changes_are_as_told_holds : PySem.Challenge.rw_stopdesk_k07_whole_changes_are_as_told.Holds := by
  w_on; o_law
  refine HandSHeadRun.head_any (r := OpenLaw.row PySem.Challenge.rw_stopdesk_k07_whole_changes_are_as_told) (q := view (OpenLaw.row PySem.Challenge.rw_stopdesk_k07_whole_changes_are_as_told).prog [54]) (H := Hd.hk) (ob := Hd.ob) (M := 6000) (loose := Hd.names) (d := HandSHeadRun.topDef (OpenLaw.row PySem.Challenge.rw_stopdesk_k07_whole_changes_are_as_told).prog 54) (kwd := []) Hd.ob_eq
    (by kernel_rfl) (fun s => by kernel_rfl) Hd.run (by kernel_rfl) (by kernel_rfl) (by kernel_rfl) (by rfl) (by first | assumption | decide +kernel) (by decide +kernel) ⟨rfl, rfl, rfl, rfl, rfl, by decide +kernel⟩ ?hw ?hc
  case hw => w_witness2
  case hc =>
    refine L2.walk_ofE (l := PySem.Challenge.rw_stopdesk_k07_whole_changes_are_as_told) (n := 63) (k := 23) (x := "_law_script") (CX := L2.CX0) rfl (by decide) (by kernel_rfl) ⟨rfl, by decide, by decide⟩ ?F (fun _ _ _ _ z => z)
    intro w mg fa h Y G hmg0
    obtain ⟨K, KX, c⟩ := Y
    have hmg : mg ("law" : PySem.Str) = some (.ref fa) := by
      have e : (HandSHeadRun.topDef (OpenLaw.row PySem.Challenge.rw_stopdesk_k07_whole_changes_are_as_told).prog 54).name = ("law" : PySem.Str) := by kernel_rfl
      rw [← e]
      exact hmg0
    obtain ⟨fd, hb, hF⟩ := SD.facts (P := (PySem.Challenge.rw_stopdesk_k07_whole_changes_are_as_told).prog) (w := w) KX G hmg c
    exact ⟨K, fd, SD.sp_law K w, KX, hb, fun H a ns hl hO hS => ⟨a, ns, rfl, SD.only_sqF hO hS, fun _ => rfl⟩, hF⟩
