import PyProof.Rows.All
import Wide.All
import OpenK.AllK
import Wide.FinOn
import Open.SpecLaws
import KE.OsGo
import KE.KStateDown
import HandS.ForSpec
import HandS.Comp
import HandS.Iter
import HandS.Dict
import HandS.Text
import HandS.Wide
import HandS.ExcInit
import HandS.ExcField
import HandS.Defaults
import HandS.Head0
import HandS.Head1
import HandS.Head2
import HandS.Head3
import HandS.Head4
import HandS.HeadHook1
import HandS.HeadHook2
import PyFlatLaws
import PySem.Challenge.RW_windowstepsdesk_s01_answers
import HandS.Walk
set_option Elab.async false
set_option linter.all false
set_option maxRecDepth 100000
set_option maxHeartbeats 4000000
namespace Wd
open PySem PySem.Spec PyProof.Rows L2
/-! ### the text by places, the facts that the top leaves -/
def top (i : Nat) : Stmt := PySem.Challenge.pw_windowstepsdesk_s01_answers.main.body.getD i (.Pass ⟨0, 0, 0, 0⟩)
abbrev s_Trap_init : Stmt := inClass (top 5) 0
abbrev s_signed : Stmt := top 6
abbrev s_part_signed : Stmt := top 7
abbrev s_bits_of : Stmt := top 8
abbrev s_is_fit : Stmt := top 9
abbrev s_Conditions_init : Stmt := inClass (top 10) 0
abbrev s_Conditions_bits : Stmt := inClass (top 10) 1
abbrev s_Conditions_first : Stmt := inClass (top 10) 2
abbrev s_Conditions_holds : Stmt := inClass (top 10) 3
abbrev s_conditions_of : Stmt := top 11
abbrev s_conditions_by : Stmt := top 12
abbrev s_total : Stmt := top 16
abbrev s_difference : Stmt := top 17
abbrev s_plain : Stmt := top 18
abbrev s_by_bits : Stmt := top 19
abbrev s_product : Stmt := top 20
abbrev s_toward_nought : Stmt := top 21
abbrev s_quotient : Stmt := top 22
abbrev s_cut_off : Stmt := top 23
abbrev s_tagged : Stmt := top 24
abbrev s_product_step : Stmt := top 25
abbrev s_shifted : Stmt := top 26
abbrev s_simple : Stmt := top 27
abbrev s_Registers_init : Stmt := inClass (top 33) 0
abbrev s_Registers_row_of : Stmt := inClass (top 33) 1
abbrev s_Registers_place_of : Stmt := inClass (top 33) 2
abbrev s_Registers_read : Stmt := inClass (top 33) 3
abbrev s_Registers_write : Stmt := inClass (top 33) 4
abbrev s_Registers_set_window : Stmt := inClass (top 33) 5
abbrev s_Registers_set_mask : Stmt := inClass (top 33) 6
abbrev s_Registers_is_barred : Stmt := inClass (top 33) 7
abbrev s_Machine_init : Stmt := inClass (top 44) 0
abbrev s_Machine_set_memory : Stmt := inClass (top 44) 1
abbrev s_Machine_set_y : Stmt := inClass (top 44) 2
abbrev s_Machine_set_conditions : Stmt := inClass (top 44) 3
abbrev s_Machine_set_places : Stmt := inClass (top 44) 4
abbrev s_Machine_go_on : Stmt := inClass (top 44) 5
abbrev s_Machine_jump : Stmt := inClass (top 44) 6
abbrev s_Machine_number_at : Stmt := inClass (top 44) 7
abbrev s_Machine_put : Stmt := inClass (top 44) 8
abbrev s_Machine_second : Stmt := inClass (top 44) 9
abbrev s_Machine_first : Stmt := inClass (top 44) 10
abbrev s_Machine_give : Stmt := inClass (top 44) 11
abbrev s_Machine_call : Stmt := inClass (top 44) 12
abbrev s_Machine_branch : Stmt := inClass (top 44) 13
abbrev s_Machine_short : Stmt := inClass (top 44) 14
abbrev s_Machine_reckon : Stmt := inClass (top 44) 15
abbrev s_Machine_special : Stmt := inClass (top 44) 16
abbrev s_Machine_jump_away : Stmt := inClass (top 44) 17
abbrev s_Machine_ask_trap : Stmt := inClass (top 44) 18
abbrev s_Machine_turn_window : Stmt := inClass (top 44) 19
abbrev s_Machine_operate : Stmt := inClass (top 44) 20
abbrev s_Machine_place_for : Stmt := inClass (top 44) 21
abbrev s_Machine_load : Stmt := inClass (top 44) 22
abbrev s_Machine_move : Stmt := inClass (top 44) 23
abbrev s_Machine_step : Stmt := inClass (top 44) 24
abbrev s_set_special : Stmt := top 53
abbrev s_set_one : Stmt := top 54
abbrev s_get_one : Stmt := top 55
abbrev s_steps_done : Stmt := top 56
abbrev s_changes : Stmt := top 57
abbrev s_run : Stmt := top 58
abbrev s_answer : Stmt := top 59
abbrev s_list_at : Stmt := top 60
abbrev s_size_of_list : Stmt := top 61
abbrev s_answers : Stmt := top 62
def d_Trap_init : He.DefD := ⟨("Trap", some "__init__"), "__init__", "Trap.__init__", defArgs s_Trap_init, defBody s_Trap_init, defScope s_Trap_init, [], []⟩
def d_signed : He.DefD := ⟨("signed", none), "signed", "signed", defArgs s_signed, defBody s_signed, defScope s_signed, [], []⟩
def d_part_signed : He.DefD := ⟨("part_signed", none), "part_signed", "part_signed", defArgs s_part_signed, defBody s_part_signed, defScope s_part_signed, [], []⟩
def d_bits_of : He.DefD := ⟨("bits_of", none), "bits_of", "bits_of", defArgs s_bits_of, defBody s_bits_of, defScope s_bits_of, [], []⟩
def d_is_fit : He.DefD := ⟨("is_fit", none), "is_fit", "is_fit", defArgs s_is_fit, defBody s_is_fit, defScope s_is_fit, [], []⟩
def d_Conditions_init : He.DefD := ⟨("Conditions", some "__init__"), "__init__", "Conditions.__init__", defArgs s_Conditions_init, defBody s_Conditions_init, defScope s_Conditions_init, [], []⟩
def d_Conditions_bits : He.DefD := ⟨("Conditions", some "bits"), "bits", "Conditions.bits", defArgs s_Conditions_bits, defBody s_Conditions_bits, defScope s_Conditions_bits, [], []⟩
def d_Conditions_first : He.DefD := ⟨("Conditions", some "first"), "first", "Conditions.first", defArgs s_Conditions_first, defBody s_Conditions_first, defScope s_Conditions_first, [], []⟩
def d_Conditions_holds : He.DefD := ⟨("Conditions", some "holds"), "holds", "Conditions.holds", defArgs s_Conditions_holds, defBody s_Conditions_holds, defScope s_Conditions_holds, [], []⟩
def d_conditions_of : He.DefD := ⟨("conditions_of", none), "conditions_of", "conditions_of", defArgs s_conditions_of, defBody s_conditions_of, defScope s_conditions_of, [], []⟩
def d_conditions_by : He.DefD := ⟨("conditions_by", none), "conditions_by", "conditions_by", defArgs s_conditions_by, defBody s_conditions_by, defScope s_conditions_by, [], []⟩
def d_total : He.DefD := ⟨("total", none), "total", "total", defArgs s_total, defBody s_total, defScope s_total, [], []⟩
def d_difference : He.DefD := ⟨("difference", none), "difference", "difference", defArgs s_difference, defBody s_difference, defScope s_difference, [], []⟩
def d_plain : He.DefD := ⟨("plain", none), "plain", "plain", defArgs s_plain, defBody s_plain, defScope s_plain, [], []⟩
def d_by_bits : He.DefD := ⟨("by_bits", none), "by_bits", "by_bits", defArgs s_by_bits, defBody s_by_bits, defScope s_by_bits, [], []⟩
def d_product : He.DefD := ⟨("product", none), "product", "product", defArgs s_product, defBody s_product, defScope s_product, [], []⟩
def d_toward_nought : He.DefD := ⟨("toward_nought", none), "toward_nought", "toward_nought", defArgs s_toward_nought, defBody s_toward_nought, defScope s_toward_nought, [], []⟩
def d_quotient : He.DefD := ⟨("quotient", none), "quotient", "quotient", defArgs s_quotient, defBody s_quotient, defScope s_quotient, [], []⟩
def d_cut_off : He.DefD := ⟨("cut_off", none), "cut_off", "cut_off", defArgs s_cut_off, defBody s_cut_off, defScope s_cut_off, [], []⟩
def d_tagged : He.DefD := ⟨("tagged", none), "tagged", "tagged", defArgs s_tagged, defBody s_tagged, defScope s_tagged, [], []⟩
def d_product_step : He.DefD := ⟨("product_step", none), "product_step", "product_step", defArgs s_product_step, defBody s_product_step, defScope s_product_step, [], []⟩
def d_shifted : He.DefD := ⟨("shifted", none), "shifted", "shifted", defArgs s_shifted, defBody s_shifted, defScope s_shifted, [], []⟩
def d_simple : He.DefD := ⟨("simple", none), "simple", "simple", defArgs s_simple, defBody s_simple, defScope s_simple, [], []⟩
def d_Registers_init : He.DefD := ⟨("Registers", some "__init__"), "__init__", "Registers.__init__", defArgs s_Registers_init, defBody s_Registers_init, defScope s_Registers_init, [], []⟩
def d_Registers_row_of : He.DefD := ⟨("Registers", some "row_of"), "row_of", "Registers.row_of", defArgs s_Registers_row_of, defBody s_Registers_row_of, defScope s_Registers_row_of, [], []⟩
def d_Registers_place_of : He.DefD := ⟨("Registers", some "place_of"), "place_of", "Registers.place_of", defArgs s_Registers_place_of, defBody s_Registers_place_of, defScope s_Registers_place_of, [], []⟩
def d_Registers_read : He.DefD := ⟨("Registers", some "read"), "read", "Registers.read", defArgs s_Registers_read, defBody s_Registers_read, defScope s_Registers_read, [], []⟩
def d_Registers_write : He.DefD := ⟨("Registers", some "write"), "write", "Registers.write", defArgs s_Registers_write, defBody s_Registers_write, defScope s_Registers_write, [], []⟩
def d_Registers_set_window : He.DefD := ⟨("Registers", some "set_window"), "set_window", "Registers.set_window", defArgs s_Registers_set_window, defBody s_Registers_set_window, defScope s_Registers_set_window, [], []⟩
def d_Registers_set_mask : He.DefD := ⟨("Registers", some "set_mask"), "set_mask", "Registers.set_mask", defArgs s_Registers_set_mask, defBody s_Registers_set_mask, defScope s_Registers_set_mask, [], []⟩
def d_Registers_is_barred : He.DefD := ⟨("Registers", some "is_barred"), "is_barred", "Registers.is_barred", defArgs s_Registers_is_barred, defBody s_Registers_is_barred, defScope s_Registers_is_barred, [], []⟩
def d_Machine_init : He.DefD := ⟨("Machine", some "__init__"), "__init__", "Machine.__init__", defArgs s_Machine_init, defBody s_Machine_init, defScope s_Machine_init, [], []⟩
def d_Machine_set_memory : He.DefD := ⟨("Machine", some "set_memory"), "set_memory", "Machine.set_memory", defArgs s_Machine_set_memory, defBody s_Machine_set_memory, defScope s_Machine_set_memory, [], []⟩
def d_Machine_set_y : He.DefD := ⟨("Machine", some "set_y"), "set_y", "Machine.set_y", defArgs s_Machine_set_y, defBody s_Machine_set_y, defScope s_Machine_set_y, [], []⟩
def d_Machine_set_conditions : He.DefD := ⟨("Machine", some "set_conditions"), "set_conditions", "Machine.set_conditions", defArgs s_Machine_set_conditions, defBody s_Machine_set_conditions, defScope s_Machine_set_conditions, [], []⟩
def d_Machine_set_places : He.DefD := ⟨("Machine", some "set_places"), "set_places", "Machine.set_places", defArgs s_Machine_set_places, defBody s_Machine_set_places, defScope s_Machine_set_places, [], []⟩
def d_Machine_go_on : He.DefD := ⟨("Machine", some "go_on"), "go_on", "Machine.go_on", defArgs s_Machine_go_on, defBody s_Machine_go_on, defScope s_Machine_go_on, [], []⟩
def d_Machine_jump : He.DefD := ⟨("Machine", some "jump"), "jump", "Machine.jump", defArgs s_Machine_jump, defBody s_Machine_jump, defScope s_Machine_jump, [], []⟩
def d_Machine_number_at : He.DefD := ⟨("Machine", some "number_at"), "number_at", "Machine.number_at", defArgs s_Machine_number_at, defBody s_Machine_number_at, defScope s_Machine_number_at, [], []⟩
def d_Machine_put : He.DefD := ⟨("Machine", some "put"), "put", "Machine.put", defArgs s_Machine_put, defBody s_Machine_put, defScope s_Machine_put, [], []⟩
def d_Machine_second : He.DefD := ⟨("Machine", some "second"), "second", "Machine.second", defArgs s_Machine_second, defBody s_Machine_second, defScope s_Machine_second, [], []⟩
def d_Machine_first : He.DefD := ⟨("Machine", some "first"), "first", "Machine.first", defArgs s_Machine_first, defBody s_Machine_first, defScope s_Machine_first, [], []⟩
def d_Machine_give : He.DefD := ⟨("Machine", some "give"), "give", "Machine.give", defArgs s_Machine_give, defBody s_Machine_give, defScope s_Machine_give, [], []⟩
def d_Machine_call : He.DefD := ⟨("Machine", some "call"), "call", "Machine.call", defArgs s_Machine_call, defBody s_Machine_call, defScope s_Machine_call, [], []⟩
def d_Machine_branch : He.DefD := ⟨("Machine", some "branch"), "branch", "Machine.branch", defArgs s_Machine_branch, defBody s_Machine_branch, defScope s_Machine_branch, [], []⟩
def d_Machine_short : He.DefD := ⟨("Machine", some "short"), "short", "Machine.short", defArgs s_Machine_short, defBody s_Machine_short, defScope s_Machine_short, [], []⟩
def d_Machine_reckon : He.DefD := ⟨("Machine", some "reckon"), "reckon", "Machine.reckon", defArgs s_Machine_reckon, defBody s_Machine_reckon, defScope s_Machine_reckon, [], []⟩
def d_Machine_special : He.DefD := ⟨("Machine", some "special"), "special", "Machine.special", defArgs s_Machine_special, defBody s_Machine_special, defScope s_Machine_special, [], []⟩
def d_Machine_jump_away : He.DefD := ⟨("Machine", some "jump_away"), "jump_away", "Machine.jump_away", defArgs s_Machine_jump_away, defBody s_Machine_jump_away, defScope s_Machine_jump_away, [], []⟩
def d_Machine_ask_trap : He.DefD := ⟨("Machine", some "ask_trap"), "ask_trap", "Machine.ask_trap", defArgs s_Machine_ask_trap, defBody s_Machine_ask_trap, defScope s_Machine_ask_trap, [], []⟩
def d_Machine_turn_window : He.DefD := ⟨("Machine", some "turn_window"), "turn_window", "Machine.turn_window", defArgs s_Machine_turn_window, defBody s_Machine_turn_window, defScope s_Machine_turn_window, [], []⟩
def d_Machine_operate : He.DefD := ⟨("Machine", some "operate"), "operate", "Machine.operate", defArgs s_Machine_operate, defBody s_Machine_operate, defScope s_Machine_operate, [], []⟩
def d_Machine_place_for : He.DefD := ⟨("Machine", some "place_for"), "place_for", "Machine.place_for", defArgs s_Machine_place_for, defBody s_Machine_place_for, defScope s_Machine_place_for, [], []⟩
def d_Machine_load : He.DefD := ⟨("Machine", some "load"), "load", "Machine.load", defArgs s_Machine_load, defBody s_Machine_load, defScope s_Machine_load, [], []⟩
def d_Machine_move : He.DefD := ⟨("Machine", some "move"), "move", "Machine.move", defArgs s_Machine_move, defBody s_Machine_move, defScope s_Machine_move, [], []⟩
def d_Machine_step : He.DefD := ⟨("Machine", some "step"), "step", "Machine.step", defArgs s_Machine_step, defBody s_Machine_step, defScope s_Machine_step, [], []⟩
def d_set_special : He.DefD := ⟨("set_special", none), "set_special", "set_special", defArgs s_set_special, defBody s_set_special, defScope s_set_special, [], []⟩
def d_set_one : He.DefD := ⟨("set_one", none), "set_one", "set_one", defArgs s_set_one, defBody s_set_one, defScope s_set_one, [], []⟩
def d_get_one : He.DefD := ⟨("get_one", none), "get_one", "get_one", defArgs s_get_one, defBody s_get_one, defScope s_get_one, [], []⟩
def d_steps_done : He.DefD := ⟨("steps_done", none), "steps_done", "steps_done", defArgs s_steps_done, defBody s_steps_done, defScope s_steps_done, [], []⟩
def d_changes : He.DefD := ⟨("changes", none), "changes", "changes", defArgs s_changes, defBody s_changes, defScope s_changes, [], []⟩
def d_run : He.DefD := ⟨("run", none), "run", "run", defArgs s_run, defBody s_run, defScope s_run, [], []⟩
def d_answer : He.DefD := ⟨("answer", none), "answer", "answer", defArgs s_answer, defBody s_answer, defScope s_answer, [], []⟩
def d_list_at : He.DefD := ⟨("list_at", none), "list_at", "list_at", defArgs s_list_at, defBody s_list_at, defScope s_list_at, [], []⟩
def d_size_of_list : He.DefD := ⟨("size_of_list", none), "size_of_list", "size_of_list", defArgs s_size_of_list, defBody s_size_of_list, defScope s_size_of_list, [], []⟩
def d_answers : He.DefD := ⟨("answers", none), "answers", "answers", defArgs s_answers, defBody s_answers, defScope s_answers, [], []⟩
def fn : List He.DefD := [d_Trap_init, d_signed, d_part_signed, d_bits_of, d_is_fit, d_Conditions_init, d_Conditions_bits, d_Conditions_first, d_Conditions_holds, d_conditions_of, d_conditions_by, d_total, d_difference, d_plain, d_by_bits, d_product, d_toward_nought, d_quotient, d_cut_off, d_tagged, d_product_step, d_shifted, d_simple, d_Registers_init, d_Registers_row_of, d_Registers_place_of, d_Registers_read, d_Registers_write, d_Registers_set_window, d_Registers_set_mask, d_Registers_is_barred, d_Machine_init, d_Machine_set_memory, d_Machine_set_y, d_Machine_set_conditions, d_Machine_set_places, d_Machine_go_on, d_Machine_jump, d_Machine_number_at, d_Machine_put, d_Machine_second, d_Machine_first, d_Machine_give, d_Machine_call, d_Machine_branch, d_Machine_short, d_Machine_reckon, d_Machine_special, d_Machine_jump_away, d_Machine_ask_trap, d_Machine_turn_window, d_Machine_operate, d_Machine_place_for, d_Machine_load, d_Machine_move, d_Machine_step, d_set_special, d_set_one, d_get_one, d_steps_done, d_changes, d_run, d_answer, d_list_at, d_size_of_list, d_answers]
def fa : List He.Fa := [
  .glo "signed",
  .glo "part_signed",
  .glo "bits_of",
  .glo "is_fit",
  .glo "conditions_of",
  .glo "conditions_by",
  .glo "total",
  .glo "difference",
  .glo "plain",
  .glo "by_bits",
  .glo "product",
  .glo "toward_nought",
  .glo "quotient",
  .glo "cut_off",
  .glo "tagged",
  .glo "product_step",
  .glo "shifted",
  .glo "simple",
  .glo "set_special",
  .glo "set_one",
  .glo "get_one",
  .glo "steps_done",
  .glo "changes",
  .glo "run",
  .glo "answer",
  .glo "list_at",
  .glo "size_of_list",
  .glo "answers",
  .glo "Trap",
  .glo "Conditions",
  .glo "Registers",
  .glo "Machine",
  .int "WORD" 4294967296,
  .int "HALF" 2147483648,
  .int "ALL_BITS" 4294967295,
  .int "NO_SUCH" 2,
  .int "BY_NOUGHT" 42,
  .int "TAGGED" 10,
  .int "WINDOWS" 8,
  .int "EIGHT" 8,
  .int "SIXTEEN" 16,
  .int "FIRST_MASK" 2,
  .int "MEMORY" 65536,
  .int "NOT_WITHIN" 1,
  .int "NO_WINDOW_BELOW" 5,
  .int "NO_WINDOW_ABOVE" 6,
  .int "NOT_ALIGNED" 7,
  .int "PAST_MEMORY" 9,
  .int "FIRST_ASKED" 128,
  .int "BACK" 15,
  .glo "SIZES",
  .int "OUT" (-2),
  .int "RESET" 0,
  .int "RUN" 3,
  .int "REGISTERS" 32,
  .int "MOST_WHICH" 37,
  .int "MOST_STEPS" 1000000,
  .glo "NUMBERS",
  .free "len",
  .free "int",
  .free "abs",
  .free "max",
  .free "min",
  .free "range",
  .free "enumerate",
  .cls "Conditions",
  .mkr "Conditions",
  .noat "Conditions" "n",
  .noat "Conditions" "z",
  .noat "Conditions" "v",
  .noat "Conditions" "c",
  .meth "Conditions" "bits",
  .meth "Conditions" "first",
  .meth "Conditions" "holds",
  .cls "Registers",
  .mkr "Registers",
  .noat "Registers" "shared",
  .noat "Registers" "windows",
  .noat "Registers" "window",
  .noat "Registers" "mask",
  .meth "Registers" "row_of",
  .meth "Registers" "place_of",
  .meth "Registers" "read",
  .meth "Registers" "write",
  .meth "Registers" "set_window",
  .meth "Registers" "set_mask",
  .meth "Registers" "is_barred",
  .cls "Machine",
  .mkr "Machine",
  .noat "Machine" "registers",
  .noat "Machine" "y",
  .noat "Machine" "conditions",
  .noat "Machine" "place",
  .noat "Machine" "after",
  .noat "Machine" "memory",
  .meth "Machine" "set_memory",
  .meth "Machine" "set_y",
  .meth "Machine" "set_conditions",
  .meth "Machine" "set_places",
  .meth "Machine" "go_on",
  .meth "Machine" "jump",
  .meth "Machine" "number_at",
  .meth "Machine" "put",
  .meth "Machine" "second",
  .meth "Machine" "first",
  .meth "Machine" "give",
  .meth "Machine" "call",
  .meth "Machine" "branch",
  .meth "Machine" "short",
  .meth "Machine" "reckon",
  .meth "Machine" "special",
  .meth "Machine" "jump_away",
  .meth "Machine" "ask_trap",
  .meth "Machine" "turn_window",
  .meth "Machine" "operate",
  .meth "Machine" "place_for",
  .meth "Machine" "load",
  .meth "Machine" "move",
  .meth "Machine" "step",
  .exm "Trap" "Trap" true,
  .keep "Trap",
  .noat "Trap" "number"]
def loose1 : List PySem.Str := ["WORD", "HALF", "ALL_BITS", "NO_SUCH", "Trap", "signed", "part_signed", "bits_of", "is_fit", "Conditions", "conditions_of", "conditions_by", "BY_NOUGHT", "TAGGED", "total", "difference", "plain", "by_bits", "product", "toward_nought", "quotient", "cut_off", "tagged", "product_step", "shifted", "simple", "WINDOWS", "EIGHT", "SIXTEEN", "FIRST_MASK"]
def loose2 : List PySem.Str := ["Registers", "MEMORY", "NOT_WITHIN", "NO_WINDOW_BELOW", "NO_WINDOW_ABOVE", "NOT_ALIGNED", "PAST_MEMORY", "FIRST_ASKED", "BACK", "SIZES", "Machine", "OUT", "RESET", "RUN", "REGISTERS", "MOST_WHICH", "MOST_STEPS", "NUMBERS", "set_special", "set_one", "get_one", "steps_done", "changes", "run", "answer", "list_at", "size_of_list"]
def loose : List PySem.Str := loose1 ++ loose2
/-- the error's class; the table of sizes; the table of numbers -/
def oexB (K : PySem.W.Frag) (C : Addr) : Bool := match K.lookup C with
  | some ⟨.type "type", _, .cls cd, sl⟩ => (match cd.mro, sl.toList with
    | .ref C' :: bm, [_, _, _, _, some (.builtin n), _] => C' == C && (n == "ValueError.__new__" && (!cd.hasDel && (cd.hasDict && PySem.HandSPX.refsVE bm)))
    | _, _ => false)
  | _ => false
def entI (e : DictEntry) : Option (Int × Int) := match e.key, e.val with
  | .int k _, .int v _ => if e.hash = hashInt k then some (k, v) else none
  | _, _ => none
def sizesL : List (Int × Int) := [(0, 4), (1, 1), (2, 2), (3, 8), (4, 4), (5, 1), (6, 2), (7, 8), (9, 1), (10, 2), (13, 1), (15, 4)]
def sizesB (K : PySem.W.Frag) (a : Addr) : Bool := match K.lookup a with
  | some ⟨.type c, none, .dict es _, sl⟩ => decide (c = "dict") && (sl.isEmpty && (!(a == sysModules) && decide (es.toList.map entI = sizesL.map some)))
  | _ => false
def trapB (K : PySem.W.Frag) (C fI : Addr) : Bool :=
  oexB K C && (He.eqO (PySem.W.findIn K (.ref C) "__setattr__") (some (some (.builtin "object.__setattr__"))) && (xfB K C && (He.eqO (PySem.W.findIn K (.ref C) "__init__") (some (some (.ref fI))) &&
    (decide (PySem.W.typeIn K (.ref fI) = some (.type "function")) && (decide (PySem.W.subIn K (.ref C) (.type "BaseException") = some true) && decide (PySem.W.typeIn K (.ref C) = some (.type "type")))))))
def exB (K : PySem.W.Frag) : Bool := trapB K (He.ga K "Trap") (He.ma K (He.ga K "Trap") "__init__") && (sizesB K (He.ga K "SIZES") && He.tupB K "NUMBERS" [.int 0, .int 2, .int 1, .int 1])
abbrev P0 : Program := PySem.Challenge.rw_windowstepsdesk_s01_answers.prog
abbrev qv : Program := PySem.W.view P0 [62]
def obsG (g : Addr → Option Obj) : He.AlD × Bool := (He.obsD fa fn (He.frG g (He.asD g 5)), exB (He.frG g (He.asD g 5)))
def hk : PySem.W.Hook where
  α := He.AlD × Bool
  obs := fun s => obsG s.heap.get?
  val := fun _ => (He.valD fn, true)
  says := fun _ h => ∃ K : PySem.W.Frag, K.In h ∧ He.SaysD fa fn K ∧ exB K = true
  of := fun _ _ e => ⟨_, He.frG_in, congrArg (fun z : He.AlD × Bool => z.1) e, congrArg (fun z : He.AlD × Bool => z.2) e⟩
  keeps := fun _ _ _ ⟨K, hK, c⟩ k => ⟨K, PySem.W.Frag.In.keeps hK k, c⟩
structure Txt (K : PySem.W.Frag) (mg : Str → Option Value) : Prop where
  g_signed : mg "signed" = some (.ref (He.ga K "signed"))
  g_part_signed : mg "part_signed" = some (.ref (He.ga K "part_signed"))
  g_bits_of : mg "bits_of" = some (.ref (He.ga K "bits_of"))
  g_is_fit : mg "is_fit" = some (.ref (He.ga K "is_fit"))
  g_conditions_of : mg "conditions_of" = some (.ref (He.ga K "conditions_of"))
  g_conditions_by : mg "conditions_by" = some (.ref (He.ga K "conditions_by"))
  g_total : mg "total" = some (.ref (He.ga K "total"))
  g_difference : mg "difference" = some (.ref (He.ga K "difference"))
  g_plain : mg "plain" = some (.ref (He.ga K "plain"))
  g_by_bits : mg "by_bits" = some (.ref (He.ga K "by_bits"))
  g_product : mg "product" = some (.ref (He.ga K "product"))
  g_toward_nought : mg "toward_nought" = some (.ref (He.ga K "toward_nought"))
  g_quotient : mg "quotient" = some (.ref (He.ga K "quotient"))
  g_cut_off : mg "cut_off" = some (.ref (He.ga K "cut_off"))
  g_tagged : mg "tagged" = some (.ref (He.ga K "tagged"))
  g_product_step : mg "product_step" = some (.ref (He.ga K "product_step"))
  g_shifted : mg "shifted" = some (.ref (He.ga K "shifted"))
  g_simple : mg "simple" = some (.ref (He.ga K "simple"))
  g_set_special : mg "set_special" = some (.ref (He.ga K "set_special"))
  g_set_one : mg "set_one" = some (.ref (He.ga K "set_one"))
  g_get_one : mg "get_one" = some (.ref (He.ga K "get_one"))
  g_steps_done : mg "steps_done" = some (.ref (He.ga K "steps_done"))
  g_changes : mg "changes" = some (.ref (He.ga K "changes"))
  g_run : mg "run" = some (.ref (He.ga K "run"))
  g_answer : mg "answer" = some (.ref (He.ga K "answer"))
  g_list_at : mg "list_at" = some (.ref (He.ga K "list_at"))
  g_size_of_list : mg "size_of_list" = some (.ref (He.ga K "size_of_list"))
  g_answers : mg "answers" = some (.ref (He.ga K "answers"))
  g_Trap : mg "Trap" = some (.ref (He.ga K "Trap"))
  g_Conditions : mg "Conditions" = some (.ref (He.ga K "Conditions"))
  g_Registers : mg "Registers" = some (.ref (He.ga K "Registers"))
  g_Machine : mg "Machine" = some (.ref (He.ga K "Machine"))
  i_WORD : ∃ t, mg "WORD" = some (.int 4294967296 t)
  i_HALF : ∃ t, mg "HALF" = some (.int 2147483648 t)
  i_ALL_BITS : ∃ t, mg "ALL_BITS" = some (.int 4294967295 t)
  i_NO_SUCH : ∃ t, mg "NO_SUCH" = some (.int 2 t)
  i_BY_NOUGHT : ∃ t, mg "BY_NOUGHT" = some (.int 42 t)
  i_TAGGED : ∃ t, mg "TAGGED" = some (.int 10 t)
  i_WINDOWS : ∃ t, mg "WINDOWS" = some (.int 8 t)
  i_EIGHT : ∃ t, mg "EIGHT" = some (.int 8 t)
  i_SIXTEEN : ∃ t, mg "SIXTEEN" = some (.int 16 t)
  i_FIRST_MASK : ∃ t, mg "FIRST_MASK" = some (.int 2 t)
  i_MEMORY : ∃ t, mg "MEMORY" = some (.int 65536 t)
  i_NOT_WITHIN : ∃ t, mg "NOT_WITHIN" = some (.int 1 t)
  i_NO_WINDOW_BELOW : ∃ t, mg "NO_WINDOW_BELOW" = some (.int 5 t)
  i_NO_WINDOW_ABOVE : ∃ t, mg "NO_WINDOW_ABOVE" = some (.int 6 t)
  i_NOT_ALIGNED : ∃ t, mg "NOT_ALIGNED" = some (.int 7 t)
  i_PAST_MEMORY : ∃ t, mg "PAST_MEMORY" = some (.int 9 t)
  i_FIRST_ASKED : ∃ t, mg "FIRST_ASKED" = some (.int 128 t)
  i_BACK : ∃ t, mg "BACK" = some (.int 15 t)
  g_SIZES : mg "SIZES" = some (.ref (He.ga K "SIZES"))
  i_OUT : ∃ t, mg "OUT" = some (.int (-2) t)
  i_RESET : ∃ t, mg "RESET" = some (.int 0 t)
  i_RUN : ∃ t, mg "RUN" = some (.int 3 t)
  i_REGISTERS : ∃ t, mg "REGISTERS" = some (.int 32 t)
  i_MOST_WHICH : ∃ t, mg "MOST_WHICH" = some (.int 37 t)
  i_MOST_STEPS : ∃ t, mg "MOST_STEPS" = some (.int 1000000 t)
  g_NUMBERS : mg "NUMBERS" = some (.ref (He.ga K "NUMBERS"))
  f_len : mg "len" = none
  f_int : mg "int" = none
  f_abs : mg "abs" = none
  f_max : mg "max" = none
  f_min : mg "min" = none
  f_range : mg "range" = none
  f_enumerate : mg "enumerate" = none
  cl_Conditions : Cls K (He.ga K "Conditions")
  mk_Conditions : Mk K (He.ga K "Conditions") (He.ma K (He.ga K "Conditions") "__init__")
  n_Conditions_n : NoAttr K (He.ga K "Conditions") "n"
  n_Conditions_z : NoAttr K (He.ga K "Conditions") "z"
  n_Conditions_v : NoAttr K (He.ga K "Conditions") "v"
  n_Conditions_c : NoAttr K (He.ga K "Conditions") "c"
  m_Conditions_bits : Meth K (He.ga K "Conditions") "bits" (He.ma K (He.ga K "Conditions") "bits")
  m_Conditions_first : Meth K (He.ga K "Conditions") "first" (He.ma K (He.ga K "Conditions") "first")
  m_Conditions_holds : Meth K (He.ga K "Conditions") "holds" (He.ma K (He.ga K "Conditions") "holds")
  cl_Registers : Cls K (He.ga K "Registers")
  mk_Registers : Mk K (He.ga K "Registers") (He.ma K (He.ga K "Registers") "__init__")
  n_Registers_shared : NoAttr K (He.ga K "Registers") "shared"
  n_Registers_windows : NoAttr K (He.ga K "Registers") "windows"
  n_Registers_window : NoAttr K (He.ga K "Registers") "window"
  n_Registers_mask : NoAttr K (He.ga K "Registers") "mask"
  m_Registers_row_of : Meth K (He.ga K "Registers") "row_of" (He.ma K (He.ga K "Registers") "row_of")
  m_Registers_place_of : Meth K (He.ga K "Registers") "place_of" (He.ma K (He.ga K "Registers") "place_of")
  m_Registers_read : Meth K (He.ga K "Registers") "read" (He.ma K (He.ga K "Registers") "read")
  m_Registers_write : Meth K (He.ga K "Registers") "write" (He.ma K (He.ga K "Registers") "write")
  m_Registers_set_window : Meth K (He.ga K "Registers") "set_window" (He.ma K (He.ga K "Registers") "set_window")
  m_Registers_set_mask : Meth K (He.ga K "Registers") "set_mask" (He.ma K (He.ga K "Registers") "set_mask")
  m_Registers_is_barred : Meth K (He.ga K "Registers") "is_barred" (He.ma K (He.ga K "Registers") "is_barred")
  cl_Machine : Cls K (He.ga K "Machine")
  mk_Machine : Mk K (He.ga K "Machine") (He.ma K (He.ga K "Machine") "__init__")
  n_Machine_registers : NoAttr K (He.ga K "Machine") "registers"
  n_Machine_y : NoAttr K (He.ga K "Machine") "y"
  n_Machine_conditions : NoAttr K (He.ga K "Machine") "conditions"
  n_Machine_place : NoAttr K (He.ga K "Machine") "place"
  n_Machine_after : NoAttr K (He.ga K "Machine") "after"
  n_Machine_memory : NoAttr K (He.ga K "Machine") "memory"
  m_Machine_set_memory : Meth K (He.ga K "Machine") "set_memory" (He.ma K (He.ga K "Machine") "set_memory")
  m_Machine_set_y : Meth K (He.ga K "Machine") "set_y" (He.ma K (He.ga K "Machine") "set_y")
  m_Machine_set_conditions : Meth K (He.ga K "Machine") "set_conditions" (He.ma K (He.ga K "Machine") "set_conditions")
  m_Machine_set_places : Meth K (He.ga K "Machine") "set_places" (He.ma K (He.ga K "Machine") "set_places")
  m_Machine_go_on : Meth K (He.ga K "Machine") "go_on" (He.ma K (He.ga K "Machine") "go_on")
  m_Machine_jump : Meth K (He.ga K "Machine") "jump" (He.ma K (He.ga K "Machine") "jump")
  m_Machine_number_at : Meth K (He.ga K "Machine") "number_at" (He.ma K (He.ga K "Machine") "number_at")
  m_Machine_put : Meth K (He.ga K "Machine") "put" (He.ma K (He.ga K "Machine") "put")
  m_Machine_second : Meth K (He.ga K "Machine") "second" (He.ma K (He.ga K "Machine") "second")
  m_Machine_first : Meth K (He.ga K "Machine") "first" (He.ma K (He.ga K "Machine") "first")
  m_Machine_give : Meth K (He.ga K "Machine") "give" (He.ma K (He.ga K "Machine") "give")
  m_Machine_call : Meth K (He.ga K "Machine") "call" (He.ma K (He.ga K "Machine") "call")
  m_Machine_branch : Meth K (He.ga K "Machine") "branch" (He.ma K (He.ga K "Machine") "branch")
  m_Machine_short : Meth K (He.ga K "Machine") "short" (He.ma K (He.ga K "Machine") "short")
  m_Machine_reckon : Meth K (He.ga K "Machine") "reckon" (He.ma K (He.ga K "Machine") "reckon")
  m_Machine_special : Meth K (He.ga K "Machine") "special" (He.ma K (He.ga K "Machine") "special")
  m_Machine_jump_away : Meth K (He.ga K "Machine") "jump_away" (He.ma K (He.ga K "Machine") "jump_away")
  m_Machine_ask_trap : Meth K (He.ga K "Machine") "ask_trap" (He.ma K (He.ga K "Machine") "ask_trap")
  m_Machine_turn_window : Meth K (He.ga K "Machine") "turn_window" (He.ma K (He.ga K "Machine") "turn_window")
  m_Machine_operate : Meth K (He.ga K "Machine") "operate" (He.ma K (He.ga K "Machine") "operate")
  m_Machine_place_for : Meth K (He.ga K "Machine") "place_for" (He.ma K (He.ga K "Machine") "place_for")
  m_Machine_load : Meth K (He.ga K "Machine") "load" (He.ma K (He.ga K "Machine") "load")
  m_Machine_move : Meth K (He.ga K "Machine") "move" (He.ma K (He.ga K "Machine") "move")
  m_Machine_step : Meth K (He.ga K "Machine") "step" (He.ma K (He.ga K "Machine") "step")
  te : PySem.W.exmOne K (.ref (He.ga K "Trap")) (.ref (He.ga K "Trap")) = some true
  k_Trap : PySem.W.keepIn K (.ref (He.ga K "Trap")) = true
  n_Trap_number : NoAttr K (He.ga K "Trap") "number"
  d_Trap_init : ∃ fd, FunD K "__init__" "Trap.__init__" (defArgs s_Trap_init) (defBody s_Trap_init) (defScope s_Trap_init) [] [] (He.fAd K ("Trap", some "__init__")) fd
  d_signed : ∃ fd, FunD K "signed" "signed" (defArgs s_signed) (defBody s_signed) (defScope s_signed) [] [] (He.fAd K ("signed", none)) fd
  d_part_signed : ∃ fd, FunD K "part_signed" "part_signed" (defArgs s_part_signed) (defBody s_part_signed) (defScope s_part_signed) [] [] (He.fAd K ("part_signed", none)) fd
  d_bits_of : ∃ fd, FunD K "bits_of" "bits_of" (defArgs s_bits_of) (defBody s_bits_of) (defScope s_bits_of) [] [] (He.fAd K ("bits_of", none)) fd
  d_is_fit : ∃ fd, FunD K "is_fit" "is_fit" (defArgs s_is_fit) (defBody s_is_fit) (defScope s_is_fit) [] [] (He.fAd K ("is_fit", none)) fd
  d_Conditions_init : ∃ fd, FunD K "__init__" "Conditions.__init__" (defArgs s_Conditions_init) (defBody s_Conditions_init) (defScope s_Conditions_init) [] [] (He.fAd K ("Conditions", some "__init__")) fd
  d_Conditions_bits : ∃ fd, FunD K "bits" "Conditions.bits" (defArgs s_Conditions_bits) (defBody s_Conditions_bits) (defScope s_Conditions_bits) [] [] (He.fAd K ("Conditions", some "bits")) fd
  d_Conditions_first : ∃ fd, FunD K "first" "Conditions.first" (defArgs s_Conditions_first) (defBody s_Conditions_first) (defScope s_Conditions_first) [] [] (He.fAd K ("Conditions", some "first")) fd
  d_Conditions_holds : ∃ fd, FunD K "holds" "Conditions.holds" (defArgs s_Conditions_holds) (defBody s_Conditions_holds) (defScope s_Conditions_holds) [] [] (He.fAd K ("Conditions", some "holds")) fd
  d_conditions_of : ∃ fd, FunD K "conditions_of" "conditions_of" (defArgs s_conditions_of) (defBody s_conditions_of) (defScope s_conditions_of) [] [] (He.fAd K ("conditions_of", none)) fd
  d_conditions_by : ∃ fd, FunD K "conditions_by" "conditions_by" (defArgs s_conditions_by) (defBody s_conditions_by) (defScope s_conditions_by) [] [] (He.fAd K ("conditions_by", none)) fd
  d_total : ∃ fd, FunD K "total" "total" (defArgs s_total) (defBody s_total) (defScope s_total) [] [] (He.fAd K ("total", none)) fd
  d_difference : ∃ fd, FunD K "difference" "difference" (defArgs s_difference) (defBody s_difference) (defScope s_difference) [] [] (He.fAd K ("difference", none)) fd
  d_plain : ∃ fd, FunD K "plain" "plain" (defArgs s_plain) (defBody s_plain) (defScope s_plain) [] [] (He.fAd K ("plain", none)) fd
  d_by_bits : ∃ fd, FunD K "by_bits" "by_bits" (defArgs s_by_bits) (defBody s_by_bits) (defScope s_by_bits) [] [] (He.fAd K ("by_bits", none)) fd
  d_product : ∃ fd, FunD K "product" "product" (defArgs s_product) (defBody s_product) (defScope s_product) [] [] (He.fAd K ("product", none)) fd
  d_toward_nought : ∃ fd, FunD K "toward_nought" "toward_nought" (defArgs s_toward_nought) (defBody s_toward_nought) (defScope s_toward_nought) [] [] (He.fAd K ("toward_nought", none)) fd
  d_quotient : ∃ fd, FunD K "quotient" "quotient" (defArgs s_quotient) (defBody s_quotient) (defScope s_quotient) [] [] (He.fAd K ("quotient", none)) fd
  d_cut_off : ∃ fd, FunD K "cut_off" "cut_off" (defArgs s_cut_off) (defBody s_cut_off) (defScope s_cut_off) [] [] (He.fAd K ("cut_off", none)) fd
  d_tagged : ∃ fd, FunD K "tagged" "tagged" (defArgs s_tagged) (defBody s_tagged) (defScope s_tagged) [] [] (He.fAd K ("tagged", none)) fd
  d_product_step : ∃ fd, FunD K "product_step" "product_step" (defArgs s_product_step) (defBody s_product_step) (defScope s_product_step) [] [] (He.fAd K ("product_step", none)) fd
  d_shifted : ∃ fd, FunD K "shifted" "shifted" (defArgs s_shifted) (defBody s_shifted) (defScope s_shifted) [] [] (He.fAd K ("shifted", none)) fd
  d_simple : ∃ fd, FunD K "simple" "simple" (defArgs s_simple) (defBody s_simple) (defScope s_simple) [] [] (He.fAd K ("simple", none)) fd
  d_Registers_init : ∃ fd, FunD K "__init__" "Registers.__init__" (defArgs s_Registers_init) (defBody s_Registers_init) (defScope s_Registers_init) [] [] (He.fAd K ("Registers", some "__init__")) fd
  d_Registers_row_of : ∃ fd, FunD K "row_of" "Registers.row_of" (defArgs s_Registers_row_of) (defBody s_Registers_row_of) (defScope s_Registers_row_of) [] [] (He.fAd K ("Registers", some "row_of")) fd
  d_Registers_place_of : ∃ fd, FunD K "place_of" "Registers.place_of" (defArgs s_Registers_place_of) (defBody s_Registers_place_of) (defScope s_Registers_place_of) [] [] (He.fAd K ("Registers", some "place_of")) fd
  d_Registers_read : ∃ fd, FunD K "read" "Registers.read" (defArgs s_Registers_read) (defBody s_Registers_read) (defScope s_Registers_read) [] [] (He.fAd K ("Registers", some "read")) fd
  d_Registers_write : ∃ fd, FunD K "write" "Registers.write" (defArgs s_Registers_write) (defBody s_Registers_write) (defScope s_Registers_write) [] [] (He.fAd K ("Registers", some "write")) fd
  d_Registers_set_window : ∃ fd, FunD K "set_window" "Registers.set_window" (defArgs s_Registers_set_window) (defBody s_Registers_set_window) (defScope s_Registers_set_window) [] [] (He.fAd K ("Registers", some "set_window")) fd
  d_Registers_set_mask : ∃ fd, FunD K "set_mask" "Registers.set_mask" (defArgs s_Registers_set_mask) (defBody s_Registers_set_mask) (defScope s_Registers_set_mask) [] [] (He.fAd K ("Registers", some "set_mask")) fd
  d_Registers_is_barred : ∃ fd, FunD K "is_barred" "Registers.is_barred" (defArgs s_Registers_is_barred) (defBody s_Registers_is_barred) (defScope s_Registers_is_barred) [] [] (He.fAd K ("Registers", some "is_barred")) fd
  d_Machine_init : ∃ fd, FunD K "__init__" "Machine.__init__" (defArgs s_Machine_init) (defBody s_Machine_init) (defScope s_Machine_init) [] [] (He.fAd K ("Machine", some "__init__")) fd
  d_Machine_set_memory : ∃ fd, FunD K "set_memory" "Machine.set_memory" (defArgs s_Machine_set_memory) (defBody s_Machine_set_memory) (defScope s_Machine_set_memory) [] [] (He.fAd K ("Machine", some "set_memory")) fd
  d_Machine_set_y : ∃ fd, FunD K "set_y" "Machine.set_y" (defArgs s_Machine_set_y) (defBody s_Machine_set_y) (defScope s_Machine_set_y) [] [] (He.fAd K ("Machine", some "set_y")) fd
  d_Machine_set_conditions : ∃ fd, FunD K "set_conditions" "Machine.set_conditions" (defArgs s_Machine_set_conditions) (defBody s_Machine_set_conditions) (defScope s_Machine_set_conditions) [] [] (He.fAd K ("Machine", some "set_conditions")) fd
  d_Machine_set_places : ∃ fd, FunD K "set_places" "Machine.set_places" (defArgs s_Machine_set_places) (defBody s_Machine_set_places) (defScope s_Machine_set_places) [] [] (He.fAd K ("Machine", some "set_places")) fd
  d_Machine_go_on : ∃ fd, FunD K "go_on" "Machine.go_on" (defArgs s_Machine_go_on) (defBody s_Machine_go_on) (defScope s_Machine_go_on) [] [] (He.fAd K ("Machine", some "go_on")) fd
  d_Machine_jump : ∃ fd, FunD K "jump" "Machine.jump" (defArgs s_Machine_jump) (defBody s_Machine_jump) (defScope s_Machine_jump) [] [] (He.fAd K ("Machine", some "jump")) fd
  d_Machine_number_at : ∃ fd, FunD K "number_at" "Machine.number_at" (defArgs s_Machine_number_at) (defBody s_Machine_number_at) (defScope s_Machine_number_at) [] [] (He.fAd K ("Machine", some "number_at")) fd
  d_Machine_put : ∃ fd, FunD K "put" "Machine.put" (defArgs s_Machine_put) (defBody s_Machine_put) (defScope s_Machine_put) [] [] (He.fAd K ("Machine", some "put")) fd
  d_Machine_second : ∃ fd, FunD K "second" "Machine.second" (defArgs s_Machine_second) (defBody s_Machine_second) (defScope s_Machine_second) [] [] (He.fAd K ("Machine", some "second")) fd
  d_Machine_first : ∃ fd, FunD K "first" "Machine.first" (defArgs s_Machine_first) (defBody s_Machine_first) (defScope s_Machine_first) [] [] (He.fAd K ("Machine", some "first")) fd
  d_Machine_give : ∃ fd, FunD K "give" "Machine.give" (defArgs s_Machine_give) (defBody s_Machine_give) (defScope s_Machine_give) [] [] (He.fAd K ("Machine", some "give")) fd
  d_Machine_call : ∃ fd, FunD K "call" "Machine.call" (defArgs s_Machine_call) (defBody s_Machine_call) (defScope s_Machine_call) [] [] (He.fAd K ("Machine", some "call")) fd
  d_Machine_branch : ∃ fd, FunD K "branch" "Machine.branch" (defArgs s_Machine_branch) (defBody s_Machine_branch) (defScope s_Machine_branch) [] [] (He.fAd K ("Machine", some "branch")) fd
  d_Machine_short : ∃ fd, FunD K "short" "Machine.short" (defArgs s_Machine_short) (defBody s_Machine_short) (defScope s_Machine_short) [] [] (He.fAd K ("Machine", some "short")) fd
  d_Machine_reckon : ∃ fd, FunD K "reckon" "Machine.reckon" (defArgs s_Machine_reckon) (defBody s_Machine_reckon) (defScope s_Machine_reckon) [] [] (He.fAd K ("Machine", some "reckon")) fd
  d_Machine_special : ∃ fd, FunD K "special" "Machine.special" (defArgs s_Machine_special) (defBody s_Machine_special) (defScope s_Machine_special) [] [] (He.fAd K ("Machine", some "special")) fd
  d_Machine_jump_away : ∃ fd, FunD K "jump_away" "Machine.jump_away" (defArgs s_Machine_jump_away) (defBody s_Machine_jump_away) (defScope s_Machine_jump_away) [] [] (He.fAd K ("Machine", some "jump_away")) fd
  d_Machine_ask_trap : ∃ fd, FunD K "ask_trap" "Machine.ask_trap" (defArgs s_Machine_ask_trap) (defBody s_Machine_ask_trap) (defScope s_Machine_ask_trap) [] [] (He.fAd K ("Machine", some "ask_trap")) fd
  d_Machine_turn_window : ∃ fd, FunD K "turn_window" "Machine.turn_window" (defArgs s_Machine_turn_window) (defBody s_Machine_turn_window) (defScope s_Machine_turn_window) [] [] (He.fAd K ("Machine", some "turn_window")) fd
  d_Machine_operate : ∃ fd, FunD K "operate" "Machine.operate" (defArgs s_Machine_operate) (defBody s_Machine_operate) (defScope s_Machine_operate) [] [] (He.fAd K ("Machine", some "operate")) fd
  d_Machine_place_for : ∃ fd, FunD K "place_for" "Machine.place_for" (defArgs s_Machine_place_for) (defBody s_Machine_place_for) (defScope s_Machine_place_for) [] [] (He.fAd K ("Machine", some "place_for")) fd
  d_Machine_load : ∃ fd, FunD K "load" "Machine.load" (defArgs s_Machine_load) (defBody s_Machine_load) (defScope s_Machine_load) [] [] (He.fAd K ("Machine", some "load")) fd
  d_Machine_move : ∃ fd, FunD K "move" "Machine.move" (defArgs s_Machine_move) (defBody s_Machine_move) (defScope s_Machine_move) [] [] (He.fAd K ("Machine", some "move")) fd
  d_Machine_step : ∃ fd, FunD K "step" "Machine.step" (defArgs s_Machine_step) (defBody s_Machine_step) (defScope s_Machine_step) [] [] (He.fAd K ("Machine", some "step")) fd
  d_set_special : ∃ fd, FunD K "set_special" "set_special" (defArgs s_set_special) (defBody s_set_special) (defScope s_set_special) [] [] (He.fAd K ("set_special", none)) fd
  d_set_one : ∃ fd, FunD K "set_one" "set_one" (defArgs s_set_one) (defBody s_set_one) (defScope s_set_one) [] [] (He.fAd K ("set_one", none)) fd
  d_get_one : ∃ fd, FunD K "get_one" "get_one" (defArgs s_get_one) (defBody s_get_one) (defScope s_get_one) [] [] (He.fAd K ("get_one", none)) fd
  d_steps_done : ∃ fd, FunD K "steps_done" "steps_done" (defArgs s_steps_done) (defBody s_steps_done) (defScope s_steps_done) [] [] (He.fAd K ("steps_done", none)) fd
  d_changes : ∃ fd, FunD K "changes" "changes" (defArgs s_changes) (defBody s_changes) (defScope s_changes) [] [] (He.fAd K ("changes", none)) fd
  d_run : ∃ fd, FunD K "run" "run" (defArgs s_run) (defBody s_run) (defScope s_run) [] [] (He.fAd K ("run", none)) fd
  d_answer : ∃ fd, FunD K "answer" "answer" (defArgs s_answer) (defBody s_answer) (defScope s_answer) [] [] (He.fAd K ("answer", none)) fd
  d_list_at : ∃ fd, FunD K "list_at" "list_at" (defArgs s_list_at) (defBody s_list_at) (defScope s_list_at) [] [] (He.fAd K ("list_at", none)) fd
  d_size_of_list : ∃ fd, FunD K "size_of_list" "size_of_list" (defArgs s_size_of_list) (defBody s_size_of_list) (defScope s_size_of_list) [] [] (He.fAd K ("size_of_list", none)) fd
  d_answers : ∃ fd, FunD K "answers" "answers" (defArgs s_answers) (defBody s_answers) (defScope s_answers) [] [] (He.fAd K ("answers", none)) fd
theorem txt_of {K : PySem.W.Frag} {h : Heap} {mg : Str → Option Value} (X : K.In h) (G : h.Ns mainGlobals mg) (c : He.SaysD fa fn K) : Txt K mg where
  g_signed := He.glo_ok X G (c.fact 0 (f := .glo "signed") rfl)
  g_part_signed := He.glo_ok X G (c.fact 1 (f := .glo "part_signed") rfl)
  g_bits_of := He.glo_ok X G (c.fact 2 (f := .glo "bits_of") rfl)
  g_is_fit := He.glo_ok X G (c.fact 3 (f := .glo "is_fit") rfl)
  g_conditions_of := He.glo_ok X G (c.fact 4 (f := .glo "conditions_of") rfl)
  g_conditions_by := He.glo_ok X G (c.fact 5 (f := .glo "conditions_by") rfl)
  g_total := He.glo_ok X G (c.fact 6 (f := .glo "total") rfl)
  g_difference := He.glo_ok X G (c.fact 7 (f := .glo "difference") rfl)
  g_plain := He.glo_ok X G (c.fact 8 (f := .glo "plain") rfl)
  g_by_bits := He.glo_ok X G (c.fact 9 (f := .glo "by_bits") rfl)
  g_product := He.glo_ok X G (c.fact 10 (f := .glo "product") rfl)
  g_toward_nought := He.glo_ok X G (c.fact 11 (f := .glo "toward_nought") rfl)
  g_quotient := He.glo_ok X G (c.fact 12 (f := .glo "quotient") rfl)
  g_cut_off := He.glo_ok X G (c.fact 13 (f := .glo "cut_off") rfl)
  g_tagged := He.glo_ok X G (c.fact 14 (f := .glo "tagged") rfl)
  g_product_step := He.glo_ok X G (c.fact 15 (f := .glo "product_step") rfl)
  g_shifted := He.glo_ok X G (c.fact 16 (f := .glo "shifted") rfl)
  g_simple := He.glo_ok X G (c.fact 17 (f := .glo "simple") rfl)
  g_set_special := He.glo_ok X G (c.fact 18 (f := .glo "set_special") rfl)
  g_set_one := He.glo_ok X G (c.fact 19 (f := .glo "set_one") rfl)
  g_get_one := He.glo_ok X G (c.fact 20 (f := .glo "get_one") rfl)
  g_steps_done := He.glo_ok X G (c.fact 21 (f := .glo "steps_done") rfl)
  g_changes := He.glo_ok X G (c.fact 22 (f := .glo "changes") rfl)
  g_run := He.glo_ok X G (c.fact 23 (f := .glo "run") rfl)
  g_answer := He.glo_ok X G (c.fact 24 (f := .glo "answer") rfl)
  g_list_at := He.glo_ok X G (c.fact 25 (f := .glo "list_at") rfl)
  g_size_of_list := He.glo_ok X G (c.fact 26 (f := .glo "size_of_list") rfl)
  g_answers := He.glo_ok X G (c.fact 27 (f := .glo "answers") rfl)
  g_Trap := He.glo_ok X G (c.fact 28 (f := .glo "Trap") rfl)
  g_Conditions := He.glo_ok X G (c.fact 29 (f := .glo "Conditions") rfl)
  g_Registers := He.glo_ok X G (c.fact 30 (f := .glo "Registers") rfl)
  g_Machine := He.glo_ok X G (c.fact 31 (f := .glo "Machine") rfl)
  i_WORD := He.int_ok X G (c.fact 32 (f := .int "WORD" 4294967296) rfl)
  i_HALF := He.int_ok X G (c.fact 33 (f := .int "HALF" 2147483648) rfl)
  i_ALL_BITS := He.int_ok X G (c.fact 34 (f := .int "ALL_BITS" 4294967295) rfl)
  i_NO_SUCH := He.int_ok X G (c.fact 35 (f := .int "NO_SUCH" 2) rfl)
  i_BY_NOUGHT := He.int_ok X G (c.fact 36 (f := .int "BY_NOUGHT" 42) rfl)
  i_TAGGED := He.int_ok X G (c.fact 37 (f := .int "TAGGED" 10) rfl)
  i_WINDOWS := He.int_ok X G (c.fact 38 (f := .int "WINDOWS" 8) rfl)
  i_EIGHT := He.int_ok X G (c.fact 39 (f := .int "EIGHT" 8) rfl)
  i_SIXTEEN := He.int_ok X G (c.fact 40 (f := .int "SIXTEEN" 16) rfl)
  i_FIRST_MASK := He.int_ok X G (c.fact 41 (f := .int "FIRST_MASK" 2) rfl)
  i_MEMORY := He.int_ok X G (c.fact 42 (f := .int "MEMORY" 65536) rfl)
  i_NOT_WITHIN := He.int_ok X G (c.fact 43 (f := .int "NOT_WITHIN" 1) rfl)
  i_NO_WINDOW_BELOW := He.int_ok X G (c.fact 44 (f := .int "NO_WINDOW_BELOW" 5) rfl)
  i_NO_WINDOW_ABOVE := He.int_ok X G (c.fact 45 (f := .int "NO_WINDOW_ABOVE" 6) rfl)
  i_NOT_ALIGNED := He.int_ok X G (c.fact 46 (f := .int "NOT_ALIGNED" 7) rfl)
  i_PAST_MEMORY := He.int_ok X G (c.fact 47 (f := .int "PAST_MEMORY" 9) rfl)
  i_FIRST_ASKED := He.int_ok X G (c.fact 48 (f := .int "FIRST_ASKED" 128) rfl)
  i_BACK := He.int_ok X G (c.fact 49 (f := .int "BACK" 15) rfl)
  g_SIZES := He.glo_ok X G (c.fact 50 (f := .glo "SIZES") rfl)
  i_OUT := He.int_ok X G (c.fact 51 (f := .int "OUT" (-2)) rfl)
  i_RESET := He.int_ok X G (c.fact 52 (f := .int "RESET" 0) rfl)
  i_RUN := He.int_ok X G (c.fact 53 (f := .int "RUN" 3) rfl)
  i_REGISTERS := He.int_ok X G (c.fact 54 (f := .int "REGISTERS" 32) rfl)
  i_MOST_WHICH := He.int_ok X G (c.fact 55 (f := .int "MOST_WHICH" 37) rfl)
  i_MOST_STEPS := He.int_ok X G (c.fact 56 (f := .int "MOST_STEPS" 1000000) rfl)
  g_NUMBERS := He.glo_ok X G (c.fact 57 (f := .glo "NUMBERS") rfl)
  f_len := He.free_ok X G (c.fact 58 (f := .free "len") rfl)
  f_int := He.free_ok X G (c.fact 59 (f := .free "int") rfl)
  f_abs := He.free_ok X G (c.fact 60 (f := .free "abs") rfl)
  f_max := He.free_ok X G (c.fact 61 (f := .free "max") rfl)
  f_min := He.free_ok X G (c.fact 62 (f := .free "min") rfl)
  f_range := He.free_ok X G (c.fact 63 (f := .free "range") rfl)
  f_enumerate := He.free_ok X G (c.fact 64 (f := .free "enumerate") rfl)
  cl_Conditions := He.cls_ok (c.fact 65 (f := .cls "Conditions") rfl)
  mk_Conditions := He.mkr_ok (c.fact 66 (f := .mkr "Conditions") rfl)
  n_Conditions_n := He.noat_ok (c.fact 67 (f := .noat "Conditions" "n") rfl)
  n_Conditions_z := He.noat_ok (c.fact 68 (f := .noat "Conditions" "z") rfl)
  n_Conditions_v := He.noat_ok (c.fact 69 (f := .noat "Conditions" "v") rfl)
  n_Conditions_c := He.noat_ok (c.fact 70 (f := .noat "Conditions" "c") rfl)
  m_Conditions_bits := He.meth_ok (c.fact 71 (f := .meth "Conditions" "bits") rfl)
  m_Conditions_first := He.meth_ok (c.fact 72 (f := .meth "Conditions" "first") rfl)
  m_Conditions_holds := He.meth_ok (c.fact 73 (f := .meth "Conditions" "holds") rfl)
  cl_Registers := He.cls_ok (c.fact 74 (f := .cls "Registers") rfl)
  mk_Registers := He.mkr_ok (c.fact 75 (f := .mkr "Registers") rfl)
  n_Registers_shared := He.noat_ok (c.fact 76 (f := .noat "Registers" "shared") rfl)
  n_Registers_windows := He.noat_ok (c.fact 77 (f := .noat "Registers" "windows") rfl)
  n_Registers_window := He.noat_ok (c.fact 78 (f := .noat "Registers" "window") rfl)
  n_Registers_mask := He.noat_ok (c.fact 79 (f := .noat "Registers" "mask") rfl)
  m_Registers_row_of := He.meth_ok (c.fact 80 (f := .meth "Registers" "row_of") rfl)
  m_Registers_place_of := He.meth_ok (c.fact 81 (f := .meth "Registers" "place_of") rfl)
  m_Registers_read := He.meth_ok (c.fact 82 (f := .meth "Registers" "read") rfl)
  m_Registers_write := He.meth_ok (c.fact 83 (f := .meth "Registers" "write") rfl)
  m_Registers_set_window := He.meth_ok (c.fact 84 (f := .meth "Registers" "set_window") rfl)
  m_Registers_set_mask := He.meth_ok (c.fact 85 (f := .meth "Registers" "set_mask") rfl)
  m_Registers_is_barred := He.meth_ok (c.fact 86 (f := .meth "Registers" "is_barred") rfl)
  cl_Machine := He.cls_ok (c.fact 87 (f := .cls "Machine") rfl)
  mk_Machine := He.mkr_ok (c.fact 88 (f := .mkr "Machine") rfl)
  n_Machine_registers := He.noat_ok (c.fact 89 (f := .noat "Machine" "registers") rfl)
  n_Machine_y := He.noat_ok (c.fact 90 (f := .noat "Machine" "y") rfl)
  n_Machine_conditions := He.noat_ok (c.fact 91 (f := .noat "Machine" "conditions") rfl)
  n_Machine_place := He.noat_ok (c.fact 92 (f := .noat "Machine" "place") rfl)
  n_Machine_after := He.noat_ok (c.fact 93 (f := .noat "Machine" "after") rfl)
  n_Machine_memory := He.noat_ok (c.fact 94 (f := .noat "Machine" "memory") rfl)
  m_Machine_set_memory := He.meth_ok (c.fact 95 (f := .meth "Machine" "set_memory") rfl)
  m_Machine_set_y := He.meth_ok (c.fact 96 (f := .meth "Machine" "set_y") rfl)
  m_Machine_set_conditions := He.meth_ok (c.fact 97 (f := .meth "Machine" "set_conditions") rfl)
  m_Machine_set_places := He.meth_ok (c.fact 98 (f := .meth "Machine" "set_places") rfl)
  m_Machine_go_on := He.meth_ok (c.fact 99 (f := .meth "Machine" "go_on") rfl)
  m_Machine_jump := He.meth_ok (c.fact 100 (f := .meth "Machine" "jump") rfl)
  m_Machine_number_at := He.meth_ok (c.fact 101 (f := .meth "Machine" "number_at") rfl)
  m_Machine_put := He.meth_ok (c.fact 102 (f := .meth "Machine" "put") rfl)
  m_Machine_second := He.meth_ok (c.fact 103 (f := .meth "Machine" "second") rfl)
  m_Machine_first := He.meth_ok (c.fact 104 (f := .meth "Machine" "first") rfl)
  m_Machine_give := He.meth_ok (c.fact 105 (f := .meth "Machine" "give") rfl)
  m_Machine_call := He.meth_ok (c.fact 106 (f := .meth "Machine" "call") rfl)
  m_Machine_branch := He.meth_ok (c.fact 107 (f := .meth "Machine" "branch") rfl)
  m_Machine_short := He.meth_ok (c.fact 108 (f := .meth "Machine" "short") rfl)
  m_Machine_reckon := He.meth_ok (c.fact 109 (f := .meth "Machine" "reckon") rfl)
  m_Machine_special := He.meth_ok (c.fact 110 (f := .meth "Machine" "special") rfl)
  m_Machine_jump_away := He.meth_ok (c.fact 111 (f := .meth "Machine" "jump_away") rfl)
  m_Machine_ask_trap := He.meth_ok (c.fact 112 (f := .meth "Machine" "ask_trap") rfl)
  m_Machine_turn_window := He.meth_ok (c.fact 113 (f := .meth "Machine" "turn_window") rfl)
  m_Machine_operate := He.meth_ok (c.fact 114 (f := .meth "Machine" "operate") rfl)
  m_Machine_place_for := He.meth_ok (c.fact 115 (f := .meth "Machine" "place_for") rfl)
  m_Machine_load := He.meth_ok (c.fact 116 (f := .meth "Machine" "load") rfl)
  m_Machine_move := He.meth_ok (c.fact 117 (f := .meth "Machine" "move") rfl)
  m_Machine_step := He.meth_ok (c.fact 118 (f := .meth "Machine" "step") rfl)
  te := He.exm_ok (c.fact 119 (f := .exm "Trap" "Trap" true) rfl)
  k_Trap := He.keep_ok (c.fact 120 (f := .keep "Trap") rfl)
  n_Trap_number := He.noat_ok (c.fact 121 (f := .noat "Trap" "number") rfl)
  d_Trap_init := c.def_ 0 (d := d_Trap_init) rfl
  d_signed := c.def_ 1 (d := d_signed) rfl
  d_part_signed := c.def_ 2 (d := d_part_signed) rfl
  d_bits_of := c.def_ 3 (d := d_bits_of) rfl
  d_is_fit := c.def_ 4 (d := d_is_fit) rfl
  d_Conditions_init := c.def_ 5 (d := d_Conditions_init) rfl
  d_Conditions_bits := c.def_ 6 (d := d_Conditions_bits) rfl
  d_Conditions_first := c.def_ 7 (d := d_Conditions_first) rfl
  d_Conditions_holds := c.def_ 8 (d := d_Conditions_holds) rfl
  d_conditions_of := c.def_ 9 (d := d_conditions_of) rfl
  d_conditions_by := c.def_ 10 (d := d_conditions_by) rfl
  d_total := c.def_ 11 (d := d_total) rfl
  d_difference := c.def_ 12 (d := d_difference) rfl
  d_plain := c.def_ 13 (d := d_plain) rfl
  d_by_bits := c.def_ 14 (d := d_by_bits) rfl
  d_product := c.def_ 15 (d := d_product) rfl
  d_toward_nought := c.def_ 16 (d := d_toward_nought) rfl
  d_quotient := c.def_ 17 (d := d_quotient) rfl
  d_cut_off := c.def_ 18 (d := d_cut_off) rfl
  d_tagged := c.def_ 19 (d := d_tagged) rfl
  d_product_step := c.def_ 20 (d := d_product_step) rfl
  d_shifted := c.def_ 21 (d := d_shifted) rfl
  d_simple := c.def_ 22 (d := d_simple) rfl
  d_Registers_init := c.def_ 23 (d := d_Registers_init) rfl
  d_Registers_row_of := c.def_ 24 (d := d_Registers_row_of) rfl
  d_Registers_place_of := c.def_ 25 (d := d_Registers_place_of) rfl
  d_Registers_read := c.def_ 26 (d := d_Registers_read) rfl
  d_Registers_write := c.def_ 27 (d := d_Registers_write) rfl
  d_Registers_set_window := c.def_ 28 (d := d_Registers_set_window) rfl
  d_Registers_set_mask := c.def_ 29 (d := d_Registers_set_mask) rfl
  d_Registers_is_barred := c.def_ 30 (d := d_Registers_is_barred) rfl
  d_Machine_init := c.def_ 31 (d := d_Machine_init) rfl
  d_Machine_set_memory := c.def_ 32 (d := d_Machine_set_memory) rfl
  d_Machine_set_y := c.def_ 33 (d := d_Machine_set_y) rfl
  d_Machine_set_conditions := c.def_ 34 (d := d_Machine_set_conditions) rfl
  d_Machine_set_places := c.def_ 35 (d := d_Machine_set_places) rfl
  d_Machine_go_on := c.def_ 36 (d := d_Machine_go_on) rfl
  d_Machine_jump := c.def_ 37 (d := d_Machine_jump) rfl
  d_Machine_number_at := c.def_ 38 (d := d_Machine_number_at) rfl
  d_Machine_put := c.def_ 39 (d := d_Machine_put) rfl
  d_Machine_second := c.def_ 40 (d := d_Machine_second) rfl
  d_Machine_first := c.def_ 41 (d := d_Machine_first) rfl
  d_Machine_give := c.def_ 42 (d := d_Machine_give) rfl
  d_Machine_call := c.def_ 43 (d := d_Machine_call) rfl
  d_Machine_branch := c.def_ 44 (d := d_Machine_branch) rfl
  d_Machine_short := c.def_ 45 (d := d_Machine_short) rfl
  d_Machine_reckon := c.def_ 46 (d := d_Machine_reckon) rfl
  d_Machine_special := c.def_ 47 (d := d_Machine_special) rfl
  d_Machine_jump_away := c.def_ 48 (d := d_Machine_jump_away) rfl
  d_Machine_ask_trap := c.def_ 49 (d := d_Machine_ask_trap) rfl
  d_Machine_turn_window := c.def_ 50 (d := d_Machine_turn_window) rfl
  d_Machine_operate := c.def_ 51 (d := d_Machine_operate) rfl
  d_Machine_place_for := c.def_ 52 (d := d_Machine_place_for) rfl
  d_Machine_load := c.def_ 53 (d := d_Machine_load) rfl
  d_Machine_move := c.def_ 54 (d := d_Machine_move) rfl
  d_Machine_step := c.def_ 55 (d := d_Machine_step) rfl
  d_set_special := c.def_ 56 (d := d_set_special) rfl
  d_set_one := c.def_ 57 (d := d_set_one) rfl
  d_get_one := c.def_ 58 (d := d_get_one) rfl
  d_steps_done := c.def_ 59 (d := d_steps_done) rfl
  d_changes := c.def_ 60 (d := d_changes) rfl
  d_run := c.def_ 61 (d := d_run) rfl
  d_answer := c.def_ 62 (d := d_answer) rfl
  d_list_at := c.def_ 63 (d := d_list_at) rfl
  d_size_of_list := c.def_ 64 (d := d_size_of_list) rfl
  d_answers := c.def_ 65 (d := d_answers) rfl
end Wd
set_option Elab.async false
set_option linter.all false
set_option maxRecDepth 100000
set_option maxHeartbeats 0
namespace Wd
open PySem PySem.W PySem.Calls PyProof.Rows
/-! ### the top, run once in the kernel for each answer of the one row that it asks -/
def ob (s : PySem.W.SharedT) : hk.α := obsG (HandSHeadRun.getT s)
theorem ob_eq (s : PySem.W.SharedT) : ob s = hk.obs s.abs := by
  have e : HandSHeadRun.getT s = s.abs.heap.get? := funext fun a => HandSHeadRun.getT_eq s a
  unfold ob
  rw [e] <;> rfl
abbrev R : PySem.W.OpenSpec := PySem.Challenge.rw_windowstepsdesk_s01_answers
theorem run_f (w : World) : HandSHeadRun.RunEqS R qv hk ob 3600 loose (w.withFollow "special-get-raises" false) := by
  intro os
  kernel_rfl
theorem run_t (w : World) : HandSHeadRun.RunEqS R qv hk ob 3600 loose (w.withFollow "special-get-raises" true) := by
  intro os
  kernel_rfl
theorem run_w (w : World) : HandSHeadRun.RunEqS R qv hk ob 3600 loose w := byRow2 "special-get-raises" (P := fun w => HandSHeadRun.RunEqS R qv hk ob 3600 loose w) run_f run_t w
abbrev dA : DefRec := HandSHeadRun.topDef R.prog 62
/-- the row, from the walk of its def -/
theorem row_of (call : WalkOS qv loose (XL qv []) hk.says R dA [] fun f vs => PySem.call f vs) (k1 : R.wellSaid = true) : R.Holds :=
  HandSHeadRun.head_spec (r := R) (q := qv) (H := hk) (ob := ob) (M := 3600) (loose := loose) (d := dA) (kwd := []) ob_eq
    (by kernel_rfl) (fun s => by kernel_rfl) run_w (by kernel_rfl) (by kernel_rfl) (by kernel_rfl) os_shapes k1 (by decide +kernel) ⟨rfl, rfl, rfl, rfl, rfl, by decide +kernel⟩
    ⟨[.list [.int 0]], by decide +kernel, by decide +kernel⟩ call
end Wd
set_option Elab.async false
set_option linter.all false
set_option maxRecDepth 100000
set_option maxHeartbeats 4000000
namespace Wd
open PySem PySem.Spec PyProof.Rows L2
/-! ### readings of operators, by short names -/
abbrev rAddI : R2 := rI0 fun i j => .int (i + j)
abbrev rSubI : R2 := rI0 fun i j => .int (i - j)
abbrev rMulI : R2 := rI CMul fun i j => .int (i * j)
abbrev rFdiv : R2 := rI CDiv fun i j => .int (i / j)
abbrev rFdivW : R2 := rI CDivW fun i j => .int (i / j)
abbrev rModI : R2 := rI (fun _ j => 0 < j) fun i j => .int (i % j)
abbrev rShlI : R2 := rI CPow fun i j => .int (i * 2 ^ j.toNat)
abbrev rShrI : R2 := rI (fun _ j => 0 ≤ j) fun i j => .int (i / 2 ^ j.toNat)
abbrev rAndI : R2 := rI0 fun i j => .int (Builtin.bitAnd i j)
abbrev rOrI : R2 := rI0 fun i j => .int (Builtin.bitOr i j)
abbrev rXorI : R2 := rI0 fun i j => .int (Builtin.bitXor i j)
abbrev rNeg : V → Hp → VK → Prop := rU fun i => .int (-i)
abbrev rLtB : R2 := rI0 fun i j => .bl (decide (i < j))
abbrev rLeB : R2 := rI0 fun i j => .bl (decide (i ≤ j))
abbrev rGtB : R2 := rI0 fun i j => .bl (decide (j < i))
abbrev rGeB : R2 := rI0 fun i j => .bl (decide (j ≤ i))
abbrev rLenL (K : PySem.W.Frag) : List V → Hp → VK → Prop := fun xs H Q => ∃ p ys, xs = [.ref p] ∧ (SqL K H p ys ∨ SqT K H p ys) ∧ Q (.int ys.length) H
abbrev rAbs : List V → Hp → VK → Prop := fun xs H Q => ∃ i, xs = [.int i] ∧ Q (.int (if i < 0 then -i else i)) H
abbrev rMax : List V → Hp → VK → Prop := fun xs H Q => ∃ i j, xs = [.int i, .int j] ∧ Q (.int (if j > i then j else i)) H
abbrev rMin : List V → Hp → VK → Prop := fun xs H Q => ∃ i j, xs = [.int i, .int j] ∧ Q (.int (if j < i then j else i)) H
abbrev rInt1 : List V → Hp → VK → Prop := fun xs H Q => (∃ i, xs = [.int i] ∧ Q (.int i) H) ∨ ∃ k, xs = [.bl k] ∧ Q (.int (if k then 1 else 0)) H
/-! ### a def that keeps its promise, by its name -/
section
variable (P : Program) (w : World) (K : PySem.W.Frag) (mg : Str → Option Value) (base : Heap)
structure CallG (CX : CXT) (k : Nat) (x : Str) (ps : List Str) (sp : Sp) : Prop where
  ex : ∃ f fd, FnOk P w K mg base CX k f fd ps sp ∧ mg x = some (.ref f) ∧ PySem.W.keepIn K (.ref f) = true ∧ Binds K fd ps []
structure MethG (CX : CXT) (k : Nat) (C : Addr) (m : Str) (ps : List Str) (sp : Sp) : Prop where
  ex : ∃ f fd, FnOk P w K mg base CX k f fd ps sp ∧ Meth K C m f ∧ Binds K fd ps []
structure MakeG (CX : CXT) (k : Nat) (x : Str) (C : Addr) (ps : List Str) (sp : Sp) : Prop where
  ex : ∃ f fd, FnOk P w K mg base CX k f fd ps sp ∧ Mk K C f ∧ mg x = some (.ref C) ∧ Binds K fd ps []
end
section
variable {X : Cx} {CX : CXT} {k : Nat} {C : Addr} {ps : List Str} {sp : Sp} {E : XK} {x m : Str} {p pos apos : Pos} {e o : Expr} {es : List Expr} {ta : TE} {t : TA}
theorem pc (G : CallG X.prog X.w X.K X.mg X.base CX k x ps sp) (hr : Room k X.A) (hx : Passes CX X E) (ha : PA X (e :: es) t) (hg : Gl X x := by rfl)
    (hdb : (x == ("__debug__" : Str)) = false := by decide) (he : starEach (e :: es) X.env = (false, eval e X.env) :: starEach es X.env := by rfl) (hpl : (backTo pos (starEach es X.env)).any (·.1) = false := by rfl) :
    PE X (.Call (.Name x p) (e :: es) [] pos) (tCall sp [] E t) := by
  obtain ⟨f, fd, F, hm, hk, hb⟩ := G.ex
  exact pe_call F hr hg hm hk hb .nil hx ha hdb he hpl
theorem pm {pl : Sem Bool} (G : MethG X.prog X.w X.K X.mg X.base CX k C m ps sp) (c : Cls X.K C) (hr : Room k X.A) (hx : Passes CX X E) (he : PE X o ta) (ha : PA X (e :: es) t)
    (hst : starEach (e :: es) X.env = (false, eval e X.env) :: starEach es X.env := by rfl) (hpl : (backTo pos (starEach es X.env)).any (·.1) = false := by rfl)
    (ht : eval (.Call (.Attribute o m apos) (e :: es) [] pos) X.env = (do
      let ov ← eval o X.env
      standAt apos.atName
      let (f, first) ← holding [ov] (getMethod ov m pl)
      callWith pos f first (backTo pos (starEach (e :: es) X.env)) (backToKw pos (keywordEach [] X.env))) := by rfl) :
    PE X (.Call (.Attribute o m apos) (e :: es) [] pos) (tMeth C m sp [] E ta t) := by
  obtain ⟨f, fd, F, hm, hb⟩ := G.ex
  exact pe_meth he c hm F hr hb .nil hx ha hst hpl ht
theorem pm0 {pl : Sem Bool} (G : MethG X.prog X.w X.K X.mg X.base CX k C m ps sp) (c : Cls X.K C) (hr : Room k X.A) (hx : Passes CX X E) (he : PE X o ta)
    (ht : eval (.Call (.Attribute o m apos) [] [] pos) X.env = (do
      let ov ← eval o X.env
      standAt apos.atName
      let (f, first) ← holding [ov] (getMethod ov m pl)
      callWith pos f first (backTo pos (starEach [] X.env)) (backToKw pos (keywordEach [] X.env))) := by rfl) :
    PE X (.Call (.Attribute o m apos) [] [] pos) (tMeth C m sp [] E ta tNil) := by
  obtain ⟨f, fd, F, hm, hb⟩ := G.ex
  exact pe_meth0 he c hm F hr hb .nil hx ht
/-- o.m() within a try: what it raises is wished for at the slots as they stand -/
def tMeth0S (C : Addr) (m : Str) (sp : Sp) (E : L2.St → XK) (ta : TE) : TE := fun σ H Q => ta σ H fun x H1 => ∃ a dx fs, x = .ref a ∧ H1 a = some (.ins C dx fs) ∧ fs.lookup m = none ∧ sp [x] H1 Q (E σ)
theorem pm0S {pl : Sem Bool} {E : L2.St → XK} (G : MethG X.prog X.w X.K X.mg X.base CX k C m ps sp) (c : Cls X.K C) (hr : Room k X.A) (hx : ∀ σ, PassesAt CX X σ (E σ)) (he : PE X o ta)
    (ht : eval (.Call (.Attribute o m apos) [] [] pos) X.env = (do
      let ov ← eval o X.env
      standAt apos.atName
      let (f, first) ← holding [ov] (getMethod ov m pl)
      callWith pos f first (backTo pos (starEach [] X.env)) (backToKw pos (keywordEach [] X.env))) := by rfl) :
    PE X (.Call (.Attribute o m apos) [] [] pos) (tMeth0S C m sp E ta) := by
  obtain ⟨f, fd, F, hm, hb⟩ := G.ex
  refine ⟨fun pins s σ H Q I h => ?_⟩
  refine PySem.W.methodCall_KW (pl := pl) (thn (he.run pins s σ H _ I h) fun u s1 ⟨x, H1, I1, rx, a, dx, fs, ex, ea, l, q⟩ => ?_) ht
  subst ex
  obtain rfl : u = Value.ref a := rx
  refine getmeth_ok I1 ea c hm l ?_
  exact PySem.W.callWith_K0 (first := [.ref a]) I1.kIn hm.kp (run_fnS (us := [.ref a]) (vs := [.ref a]) F hr hb (hx σ) I1 (.cons rfl .nil) q)
theorem pk (G : MakeG X.prog X.w X.K X.mg X.base CX k x C ps sp) (hr : Room (k + 1) X.A) (hx : Passes CX X E) (ha : PA X (e :: es) t) (hg : Gl X x := by rfl)
    (hdb : (x == ("__debug__" : Str)) = false := by decide) (he : starEach (e :: es) X.env = (false, eval e X.env) :: starEach es X.env := by rfl) (hpl : (backTo pos (starEach es X.env)).any (·.1) = false := by rfl) :
    PE X (.Call (.Name x p) (e :: es) [] pos) (tMake C sp [] E t) := by
  obtain ⟨f, fd, F, M, hm, hb⟩ := G.ex
  exact pe_make M F hr hg hm hb .nil hx ha hdb he hpl
theorem pk0 (G : MakeG X.prog X.w X.K X.mg X.base CX k x C ps sp) (hr : Room (k + 1) X.A) (hx : Passes CX X E) (hg : Gl X x := by rfl)
    (hdb : (x == ("__debug__" : Str)) = false := by decide) : PE X (.Call (.Name x p) [] [] pos) (tMake C sp [] E tNil) := by
  obtain ⟨f, fd, F, M, hm, hb⟩ := G.ex
  exact pe_make0 M F hr hg hm hb .nil hx hdb
/-- a constant of the top, a whole number -/
theorem pgi {i : Int} (h : ∃ t, X.mg x = some (.int i t)) (hg : Gl X x := by rfl) (hdb : (x == ("__debug__" : Str)) = false := by decide) : PE X (.Name x pos) (tC (.int i)) := by
  obtain ⟨t, h⟩ := h
  exact pe_glob hg h ⟨t, rfl⟩ hdb
end
/-! ### the written table of sizes -/
theorem entI_some {e : DictEntry} {k v : Int} (h : entI e = some (k, v)) : ∃ t t', e.key = .int k t ∧ e.val = .int v t' ∧ e.hash = hashInt k := by
  obtain ⟨hash, key, val⟩ := e
  cases key with
  | int i t => cases val with
    | int j t' =>
      have h1 : (if hash = hashInt i then some (i, j) else none) = some (k, v) := h
      by_cases c : hash = hashInt i
      · rw [if_pos c] at h1
        obtain ⟨rfl, rfl⟩ := Prod.mk.inj (Option.some.inj h1)
        exact ⟨t, t', rfl, rfl, c⟩
      · rw [if_neg c] at h1
        cases h1
    | _ => cases h
  | _ => cases h
theorem find_ent : ∀ (l : List DictEntry) (L : List (Int × Int)), l.map entI = L.map some → ∀ k : Int,
    (L.lookup k = none → (l.find? fun e => Value.isInt k e.key) = none) ∧ (∀ v, L.lookup k = some v → ∃ e t, (l.find? fun e => Value.isInt k e.key) = some e ∧ e.val = .int v t)
  | [], [], _, k => ⟨fun _ => rfl, fun v h => by cases h⟩
  | [], _ :: _, h, _ => by cases h
  | _ :: _, [], h, _ => by cases h
  | e :: l, (a, b) :: L, h, k => by
    have h1 : entI e :: l.map entI = some (a, b) :: L.map some := h
    injection h1 with h2 h3
    obtain ⟨t, t', ek, ev, _⟩ := entI_some h2
    obtain ⟨i1, i2⟩ := find_ent l L h3 k
    have ei : Value.isInt k e.key = (a == k) := by rw [ek] <;> rfl
    by_cases c : k = a
    · subst c
      have e1 : (k == k) = true := by simp
      refine ⟨fun z => ?_, fun v z => ?_⟩
      · simp [List.lookup] at z
      · simp [List.lookup] at z
        subst z
        exact ⟨e, t', by rw [List.find?_cons, ei, e1], ev⟩
    · have e1 : (a == k) = false := by simpa using fun z => c z.symm
      have e2 : (k == a) = false := by simpa using c
      refine ⟨fun z => ?_, fun v z => ?_⟩
      · rw [List.lookup, e2] at z
        rw [List.find?_cons, ei, e1]
        exact i1 z
      · rw [List.lookup, e2] at z
        obtain ⟨x, tx, z1, z2⟩ := i2 v z
        exact ⟨x, tx, by rw [List.find?_cons, ei, e1]; exact z1, z2⟩
theorem sizes_map {prog : Program} {w : World} {K : PySem.W.Frag} {h : Heap} {a : Addr} (X : K.In h) (hb : sizesB K a = true) :
    (a == sysModules) = false ∧ ∃ f, h.MapOf (intKind prog w) a f ∧ ∀ k : Int, (sizesL.lookup k = none → f k = none) ∧ ∀ v, sizesL.lookup k = some v → ∃ t, f k = some (.int v t) := by
  unfold sizesB at hb
  cases q : K.lookup a with
  | none =>
    rw [q] at hb
    cases hb
  | some o =>
    obtain ⟨oc, od, dt, osl⟩ := o
    rw [q] at hb
    cases oc with
    | type c =>
      cases od with
      | none =>
        cases dt with
        | dict es n =>
          obtain ⟨h1, h2⟩ := He.ba (show (decide (c = "dict") && (osl.isEmpty && (!(a == sysModules) && decide (es.toList.map entI = sizesL.map some)))) = true from hb)
          obtain ⟨h3, h4⟩ := He.ba h2
          obtain ⟨h5, h6⟩ := He.ba h4
          have e1 : c = "dict" := of_decide_eq_true h1
          have e2 : osl = #[] := Array.isEmpty_iff.mp h3
          subst e1 e2
          have e6 := of_decide_eq_true h6
          have nf := find_ent es.toList sizesL e6
          have ef : ∀ k, findBy Value.isInt es k = (es.toList.find? fun e => Value.isInt k e.key).map (·.val) := fun k => by
            obtain ⟨l⟩ := es
            simp [findBy]
          refine ⟨by simpa using h5, fun k => findBy Value.isInt es k, ⟨_, es, n, X _ _ q, ⟨rfl, rfl, rfl⟩, rfl, fun e he => ?_, fun _ => rfl⟩, fun k => ⟨fun z => ?_, fun v z => ?_⟩⟩
          · have m : entI e ∈ es.toList.map entI := List.mem_map_of_mem (Array.mem_toList_iff.mpr he)
            rw [e6] at m
            obtain ⟨⟨k, v⟩, _, m2⟩ := List.mem_map.mp m
            obtain ⟨t, t', ek, ev, eh⟩ := entI_some m2.symm
            exact ⟨k, by rw [ek]; show (k == k) = true; simp, eh⟩
          · show findBy Value.isInt es k = none
            rw [ef, (nf k).1 z] <;> rfl
          · obtain ⟨e, t, z1, z2⟩ := (nf k).2 v z
            refine ⟨t, ?_⟩
            show findBy Value.isInt es k = _
            rw [ef, z1]
            exact congrArg some z2
        | _ => cases hb
      | some b => cases dt <;> cases hb
    | _ => cases od <;> cases dt <;> cases hb
def rSizes (K : PySem.W.Frag) : R2 := fun x y H Q => ∃ k v : Int, x = .ref (He.ga K "SIZES") ∧ y = .int k ∧ sizesL.lookup k = some v ∧ Q (.int v) H
def rNotInSizes (K : PySem.W.Frag) : R2 := fun x y H Q => ∃ k : Int, x = .int k ∧ y = .ref (He.ga K "SIZES") ∧ Q (.bl (!(sizesL.lookup k).isSome)) H
section
variable {X : Cx}
theorem op_notIn_sizes (S : sizesB X.K (He.ga X.K "SIZES") = true) : OpR X (compareOp .NotIn) (rNotInSizes X.K) := by
  intro pins s σ H x y v u Q I rx ry h
  obtain ⟨k, rfl, rfl, q⟩ := h
  obtain ⟨t, rfl⟩ := rx
  cases ry
  obtain ⟨low, f, hm, hf⟩ := sizes_map (prog := X.prog) (w := X.w) I.kIn S
  refine wpAny_notIn_of (k := k) (show Value.isInt k (.int k t) = true by show (k == k) = true; simp) low hm ?_
  have e : (f k).isSome = (sizesL.lookup k).isSome := by
    cases z : sizesL.lookup k with
    | none => rw [(hf k).1 z] <;> rfl
    | some v =>
      obtain ⟨t, z2⟩ := (hf k).2 v z
      rw [z2] <;> rfl
  rw [e]
  exact ⟨.bl (!(sizesL.lookup k).isSome), H, I.tok _, rfl, q⟩
theorem ix_sizes (S : sizesB X.K (He.ga X.K "SIZES") = true) : IxR X (rSizes X.K) := by
  intro value slice pins s σ H x y v u Q I rx ry h hs
  obtain ⟨k, z, rfl, rfl, l, q⟩ := h
  cases rx
  obtain ⟨t, rfl⟩ := ry
  obtain ⟨low, f, hm, hf⟩ := sizes_map (prog := X.prog) (w := X.w) I.kIn S
  obtain ⟨t2, z2⟩ := (hf k).2 z l
  exact tail_any hm.typeIs slot_dict_getitem.lookup (wpAny_getItem_of (k := k) (show Value.isInt k (.int k t) = true by show (k == k) = true; simp) hm z2 ⟨.int z, H, I.tok _, ⟨_, rfl⟩, q⟩) hs
end
end Wd
set_option Elab.async false
set_option linter.all false
set_option maxRecDepth 100000
set_option maxHeartbeats 4000000
namespace Wd
open PySem PySem.Spec PyProof.Rows L2
/-! ### what else the top has written: the error's class, the tables -/
structure Ex (K : PySem.W.Frag) : Prop where
  oex : OexC K (He.ga K "Trap")
  xf : XfC K (He.ga K "Trap")
  ini : PySem.W.findIn K (.ref (He.ga K "Trap")) "__init__" = some (some (.ref (He.ma K (He.ga K "Trap") "__init__")))
  tI : PySem.W.typeIn K (.ref (He.ma K (He.ga K "Trap") "__init__")) = some (.type "function")
  sizes : sizesB K (He.ga K "SIZES") = true
  nums : ∀ H, SqT K H (He.ga K "NUMBERS") [.int 0, .int 2, .int 1, .int 1]
theorem oex_of {K : PySem.W.Frag} {C : Addr} (h : oexB K C = true) (sa : PySem.W.findIn K (.ref C) "__setattr__" = some (some (.builtin "object.__setattr__"))) (ex : PySem.W.subIn K (.ref C) (.type "BaseException") = some true)
    (ty : PySem.W.typeIn K (.ref C) = some (.type "type")) (k : PySem.W.keepIn K (.ref C) = true) : OexC K C := by
  refine ⟨?_, sa, ex, ty, k⟩
  unfold oexB at h
  split at h
  · rename_i dd cd sl ho
    split at h
    · rename_i C' bm k0 k1 k2 k3 n k5 hm hs
      simp only [Bool.and_eq_true, beq_iff_eq, Bool.not_eq_true'] at h
      obtain ⟨rfl, rfl, hdel, hdict, hr⟩ := h
      obtain ⟨nm, bs, mro, ns, qn, hd, sn, sub, ab, col, del⟩ := cd
      dsimp only at hm hdel hdict
      subst hm hdel hdict
      have hsl : sl = #[k0, k1, k2, k3, some (.builtin "ValueError.__new__"), k5] := by
        obtain ⟨l⟩ := sl
        simp only at hs
        rw [hs]
      subst hsl
      exact ⟨nm, qn, ns, bs, bm, sn, sub, ab, col, dd, k0, k1, k2, k3, k5, ho, hr⟩
    · cases h
  · cases h
theorem ex_of {K : PySem.W.Frag} (h : exB K = true) (k : PySem.W.keepIn K (.ref (He.ga K "Trap")) = true) : Ex K := by
  obtain ⟨h1, h2⟩ := He.ba h
  obtain ⟨h3, h4⟩ := He.ba h2
  obtain ⟨a1, a2⟩ := He.ba h1
  obtain ⟨b1, b2⟩ := He.ba a2
  obtain ⟨c1, c2⟩ := He.ba b2
  obtain ⟨d1, d2⟩ := He.ba c2
  obtain ⟨e1, e2⟩ := He.ba d2
  obtain ⟨f1, f2⟩ := He.ba e2
  exact ⟨oex_of a1 (He.eqO_ok b1) (of_decide_eq_true f1) (of_decide_eq_true f2) k, xfB_ok c1, He.eqO_ok d1, of_decide_eq_true e1, h3, fun H => He.tupB_ok (vs := [.int 0, .int 2, .int 1, .int 1]) h4 H⟩
/-! ### the trap -/
def sp_Trap_init (K : PySem.W.Frag) : Sp := fun vs H Q _ => ∃ (a : Addr) (n : Int), vs = [.ref a, .int n] ∧ H a = some (exo a (He.ga K "Trap") none) ∧
  ∀ dx, H dx = none → dx ≠ a → Q .non (upd (upd H dx (exd dx [("number", .int n)])) a (exo a (He.ga K "Trap") (some dx)))
structure TrapG (P : Program) (w : World) (K : PySem.W.Frag) (mg : Str → Option Value) (base : Heap) : Prop where
  ex : ∃ f fd, FnOk P w K mg base CX0 1 f fd ["self", "number"] (sp_Trap_init K) ∧ PySem.W.findIn K (.ref (He.ga K "Trap")) "__init__" = some (some (.ref f)) ∧ PySem.W.typeIn K (.ref f) = some (.type "function") ∧ Binds K fd ["self", "number"] []
  oex : OexC K (He.ga K "Trap")
  g : mg "Trap" = some (.ref (He.ga K "Trap"))
/-- raise Trap(e) -/
def tTrap (K : PySem.W.Frag) (W : WX) (ta : TA) : TS := fun _ σ H => ta σ H fun vs H1 => ∃ n : Int, vs = [.int n] ∧ ∀ d H', Same H1 H' → H' d = some (.xd [("number", .int n)]) → W (.ref (He.ga K "Trap")) (some d) σ H'
theorem ps_trap {X : Cx} {W : WX} {e : Expr} {es : List Expr} {ta : TA} {p pos pos2 : Pos} (G : TrapG X.prog X.w X.K X.mg X.base) (hr : Room 2 X.A) (hc : X.calm = true) (tk : Takes X W) (ha : PA X (e :: es) ta) (hg : Gl X "Trap" := by rfl)
    (he : starEach (e :: es) X.env = (false, eval e X.env) :: starEach es X.env := by rfl) (hpl : (backTo pos (starEach es X.env)).any (·.1) = false := by rfl) :
    PS X (.Raise (some (.Call (.Name "Trap" p) (e :: es) [] pos)) none pos2) (tTrap X.K W ta) := by
  obtain ⟨f, fd, F, hi, ht, hb⟩ := G.ex
  refine ⟨fun pins s σ H D I h => ?_⟩
  have ha2 : PA X (e :: es) (fun σ0 H0 Q0 => σ0 = σ ∧ H0 = H ∧ ∀ vs H1, (∃ n : Int, vs = [.int n] ∧ ∀ d H', Same H1 H' → H' d = some (.xd [("number", .int n)]) → W (.ref (He.ga X.K "Trap")) (some d) σ H') → Q0 vs H1) :=
    ⟨fun pos pins s σ0 H0 Q0 I0 h0 => by
      obtain ⟨rfl, rfl, h2⟩ := h0
      exact thn (ha.run pos pins s _ _ _ I0 h) fun us s1 ⟨vs, H1, I1, r, q⟩ => ⟨vs, H1, I1, r, h2 _ _ q⟩⟩
  refine (ps_raise (pos := pos2) hc tk (pmk_oex (p := p) (pos := pos) (dvs := []) G.oex hi ht F hr hb .nil pass0 hg G.g ha2 (by decide) he hpl)).run pins s σ H D I ⟨rfl, rfl, fun vs H1 hn => ?_⟩
  obtain ⟨n, rfl, k⟩ := hn
  refine ⟨(by show 1 ≤ 1000; decide), fun a hna => ⟨a, n, rfl, upd_same, fun dx hdx hne => ?_⟩⟩
  have h1 : H1 dx = none := by
    rw [upd_ne hne] at hdx
    exact hdx
  refine ⟨rfl, dx, _, upd_same, by rw [upd_ne hne, upd_same], h1, k dx _ (fun b o hb => ?_) upd_same⟩
  have b1 : b ≠ dx := ne_of_none hb h1
  have b2 : b ≠ a := ne_of_none hb hna
  rw [upd_ne b1, del_ne b2, upd_ne b2, upd_ne b1, upd_ne b2]
  exact hb
section
variable {P : Program} {w : World} {K : PySem.W.Frag} {mg : Str → Option Value} {base : Heap}
theorem sc_Trap_init : FnScope ["self", "number"] ["self", "number"] (defScope s_Trap_init) := ⟨rfl, rfl, rfl, by decide +kernel, rfl, by decide +kernel, by decide +kernel⟩
theorem ok_Trap (T : Txt K mg) (Xt : Ex K) : TrapG P w K mg base := by
  obtain ⟨fd, F⟩ := T.d_Trap_init
  refine ⟨⟨_, fd, F.ok sc_Trap_init (fun vs H Q E h => ?_) (fun cdv A outer s H vs Q E hr h => ⟨tOst K "number" (tVar 0) (tVar 1), PSs.nox (pss_one (ps_ost (pv 0) (pv 1))), ?_⟩), Xt.ini, Xt.tI, F.bindsN fun _ _ _ _ _ _ us hl => match us, hl with | [_, _], _ => rfl⟩, Xt.oex, T.g_Trap⟩
  · obtain ⟨a, n, rfl, _⟩ := h
    rfl
  · obtain ⟨a, n, rfl, ha, q⟩ := h
    exact ⟨_, rfl, _, rfl, a, _, rfl, Xt.oex, T.n_Trap_number, Or.inl ⟨ha, q⟩⟩
end
end Wd
set_option Elab.async false
set_option linter.all false
set_option maxRecDepth 100000
set_option maxHeartbeats 4000000
namespace Wd
open PySem PySem.Spec PyProof.Rows L2
/-! ### the promises of words and reckoning -/
def icF (i : Ra24.Icc) : List (Str × V) := [("n", .bl i.n), ("z", .bl i.z), ("v", .bl i.v), ("c", .bl i.c)]
def IccAt (K : PySem.W.Frag) (H : Hp) (p : Addr) (i : Ra24.Icc) : Prop := ∃ dx, H p = some (.ins (He.ga K "Conditions") dx (icF i))
/-- a new pair: a word, conditions -/
def PairOut (K : PySem.W.Frag) (H : Hp) (Q : VK) (r : Nat × Ra24.Icc) : Prop := ∀ H' t p, Same H H' → H' t = some (.tup [.int (r.1 : Int), .ref p]) → IccAt K H' p r.2 → Q (.ref t) H'
/-- a trap by its number; all as it was -/
def TrapOut (K : PySem.W.Frag) (H : Hp) (E : XK) (n : Nat) : Prop := ∀ d H', Same H H' → H' d = some (.xd [("number", .int (n : Int))]) → E (.ref (He.ga K "Trap")) (some d) H'
/-- a part of so many bits, with its sign -/
def psg (p b : Nat) : Int := if p / 2 ^ (b - 1) = 1 then (p : Int) - ((2 ^ b : Nat) : Int) else (p : Int)
def sp_part_signed (K : PySem.W.Frag) : Sp := fun vs H Q _ => ∃ p b : Nat, vs = [.int p, .int b] ∧ (1 ≤ b ∧ b ≤ 64) ∧ Q (.int (psg p b)) H
def sp_signed (K : PySem.W.Frag) : Sp := fun vs H Q _ => ∃ n : Nat, vs = [.int n] ∧ n < Ra24.W ∧ Q (.int (Ra24.signed n)) H
def sp_bits_of (K : PySem.W.Frag) : Sp := fun vs H Q _ => ∃ w l n : Nat, vs = [.int w, .int l, .int n] ∧ n ≤ 64 ∧ Q (.int ((w / 2 ^ l % 2 ^ n : Nat) : Int)) H
def sp_is_fit (K : PySem.W.Frag) : Sp := fun vs H Q _ => ∃ z : Int, vs = [.int z] ∧ Q (.bl (Ra24.fitsS z)) H
def sp_Conditions_init (K : PySem.W.Frag) : Sp := fun vs H Q _ => ∃ (p dx : Addr) (i : Ra24.Icc), vs = [.ref p, .bl i.n, .bl i.z, .bl i.v, .bl i.c] ∧ H p = some (.ins (He.ga K "Conditions") dx []) ∧
  ∀ H', IccAt K H' p i → (∀ b, b ≠ p → H' b = H b) → Q .non H'
def sp_Conditions_bits (K : PySem.W.Frag) : Sp := fun vs H Q _ => ∃ (p : Addr) (i : Ra24.Icc), vs = [.ref p] ∧ IccAt K H p i ∧ Q (.int (Ra24.iccByte i : Nat)) H
def sp_Conditions_first (K : PySem.W.Frag) : Sp := fun vs H Q _ => ∃ (p : Addr) (i : Ra24.Icc) (k : Nat), vs = [.ref p, .int k] ∧ IccAt K H p i ∧ k < 8 ∧ ∀ H', Same H H' → Q (.bl (Ra24.holds i k)) H'
def sp_Conditions_holds (K : PySem.W.Frag) : Sp := fun vs H Q _ => ∃ (p : Addr) (i : Ra24.Icc) (k : Nat), vs = [.ref p, .int k] ∧ IccAt K H p i ∧ k < 16 ∧ ∀ H', Same H H' → Q (.bl (Ra24.holds i k)) H'
def sp_conditions_of (K : PySem.W.Frag) : Sp := fun vs H Q _ => ∃ n : Nat, vs = [.int n] ∧ ∀ H' p, Same H H' → IccAt K H' p ⟨n.testBit 3, n.testBit 2, n.testBit 1, n.testBit 0⟩ → Q (.ref p) H'
def sp_conditions_by (K : PySem.W.Frag) : Sp := fun vs H Q _ => ∃ (n : Nat) (v c : Bool), vs = [.int n, .bl v, .bl c] ∧ ∀ H' p, Same H H' → IccAt K H' p (Ra24.nz n v c) → Q (.ref p) H'
def sp_total (K : PySem.W.Frag) : Sp := fun vs H Q _ => ∃ a b c : Nat, vs = [.int a, .int b, .int c] ∧ (a < Ra24.W ∧ b < Ra24.W ∧ c ≤ 1) ∧ PairOut K H Q (Ra24.plus a b c)
def sp_difference (K : PySem.W.Frag) : Sp := fun vs H Q _ => ∃ a b c : Nat, vs = [.int a, .int b, .int c] ∧ (a < Ra24.W ∧ b < Ra24.W ∧ c ≤ 1) ∧ PairOut K H Q (Ra24.minus a b c)
def logic (x : Nat) : Nat × Ra24.Icc := (x, Ra24.nz x false false)
def sp_plain (K : PySem.W.Frag) : Sp := fun vs H Q _ => ∃ n : Nat, vs = [.int n] ∧ PairOut K H Q (logic n)
def turned (op b : Nat) : Nat := if 4 < op then Ra24.W - 1 - b else b
def byBits (op a b : Nat) : Nat := if op % 4 = 1 then a &&& turned op b else if op % 4 = 2 then a ||| turned op b else a ^^^ turned op b
def sp_by_bits (K : PySem.W.Frag) : Sp := fun vs H Q _ => ∃ op a b : Nat, vs = [.int op, .int a, .int b] ∧ b < Ra24.W ∧ PairOut K H Q (logic (byBits op a b))
def prodOf (s : Bool) (a b : Nat) : Nat := if s = true then ((Ra24.signed a * Ra24.signed b) % 2 ^ 64).toNat else a * b
def sp_product (K : PySem.W.Frag) : Sp := fun vs H Q _ => ∃ (a b : Nat) (s : Bool), vs = [.int a, .int b, .bl s] ∧ (a < Ra24.W ∧ b < Ra24.W) ∧
  ∀ H' t, Same H H' → H' t = some (.tup [.int ((prodOf s a b % Ra24.W : Nat) : Int), .int ((prodOf s a b / Ra24.W : Nat) : Int)]) → Q (.ref t) H'
def sp_toward_nought (K : PySem.W.Frag) : Sp := fun vs H Q _ => ∃ x y : Int, vs = [.int x, .int y] ∧ (y ≠ 0 ∧ y.natAbs < 2 ^ 64) ∧ Q (.int (Int.tdiv x y)) H
def sp_quotient (K : PySem.W.Frag) : Sp := fun vs H Q E => ∃ (y a b : Nat) (s : Bool), vs = [.int y, .int a, .int b, .bl s] ∧ (y < Ra24.W ∧ a < Ra24.W ∧ b < Ra24.W) ∧
  (match Ra24.divided s y a b with
  | none => TrapOut K H E 42
  | some (x, v) => PairOut K H Q (x, Ra24.nz x v false))
def keptIn (f lo hi : Int) : Int := if (if f < hi then f else hi) > lo then (if f < hi then f else hi) else lo
def sp_cut_off (K : PySem.W.Frag) : Sp := fun vs H Q _ => ∃ f lo hi : Int, vs = [.int f, .int lo, .int hi] ∧ PairOut K H Q (Ra24.wrap (keptIn f lo hi), Ra24.nz (Ra24.wrap (keptIn f lo hi)) (!decide (keptIn f lo hi = f)) false)
def taggedOf (op a b : Nat) : Nat × Ra24.Icc := Ra24.tagged a b (if op % 2 = 0 then Ra24.plus a b 0 else Ra24.minus a b 0)
def sp_tagged (K : PySem.W.Frag) : Sp := fun vs H Q E => ∃ op a b : Nat, vs = [.int op, .int a, .int b] ∧ (a < Ra24.W ∧ b < Ra24.W) ∧
  (if (taggedOf op a b).2.v = true ∧ 34 ≤ op then TrapOut K H E 10 else PairOut K H Q (taggedOf op a b))
def stepOf (a b y : Nat) (i : Ra24.Icc) : Nat × Ra24.Icc := Ra24.plus (a / 2 + if i.n != i.v then 2 ^ 31 else 0) (if y % 2 = 1 then b else 0) 0
def sp_product_step (K : PySem.W.Frag) : Sp := fun vs H Q _ => ∃ (a b y : Nat) (p : Addr) (i : Ra24.Icc), vs = [.int a, .int b, .int y, .ref p] ∧ (a < Ra24.W ∧ b < Ra24.W ∧ y < Ra24.W) ∧ IccAt K H p i ∧
  ∀ H' t q, Same H H' → H' t = some (.tup [.int ((stepOf a b y i).1 : Int), .ref q, .int ((y / 2 + a % 2 * 2 ^ 31 : Nat) : Int)]) → IccAt K H' q (stepOf a b y i).2 → Q (.ref t) H'
def shiftOf (op a b : Nat) : Nat := if op = 37 then a * 2 ^ (b % 32) % Ra24.W else if op = 38 then a / 2 ^ (b % 32) else Ra24.wrap (Ra24.signed a / 2 ^ (b % 32))
def sp_shifted (K : PySem.W.Frag) : Sp := fun vs H Q _ => ∃ op a b : Nat, vs = [.int op, .int a, .int b] ∧ a < Ra24.W ∧ Q (.int (shiftOf op a b : Int)) H
def simpleOf (op a b c : Nat) : Option (Nat × Ra24.Icc) := if op = 0 then some (Ra24.plus a b 0) else if op = 4 then some (Ra24.minus a b 0) else if op = 8 then some (Ra24.plus a b c) else if op = 12 then some (Ra24.minus a b c)
  else if op = 9 ∨ op = 13 then none else some (logic (byBits op a b))
def sp_simple (K : PySem.W.Frag) : Sp := fun vs H Q E => ∃ op a b c : Nat, vs = [.int op, .int a, .int b, .int c] ∧ (a < Ra24.W ∧ b < Ra24.W ∧ c ≤ 1) ∧
  (match simpleOf op a b c with
  | none => TrapOut K H E 2
  | some r => PairOut K H Q r)
end Wd
set_option Elab.async false
set_option linter.all false
set_option maxRecDepth 100000
set_option maxHeartbeats 4000000
namespace Wd
open PySem PySem.Spec PyProof.Rows L2
/-! ### words and reckoning: scopes, readings, bodies (printed by genwalk.py) -/
section
variable {P : Program} {w : World} {K : PySem.W.Frag} {mg : Str → Option Value} {base : Heap}
theorem sc_part_signed : FnScope ["part", "bits"] ["part", "bits"] (defScope s_part_signed) := ⟨rfl, rfl, rfl, by decide +kernel, rfl, by decide +kernel, by decide +kernel⟩
def t_part_signed (K : PySem.W.Frag) (E : XK) : TS :=
  (tSeq (tIfS (tTest (tOp rEq (tOp rShrI (tVar 0) (tOp rSubI (tVar 1) (tC (.int 1)))) (tC (.int 1)))) (tRet (tOp rSubI (tVar 0) (tOp rShlI (tC (.int 1)) (tVar 1)))) tNext)
    (tRet (tVar 0)))
theorem ok_part_signed (T : Txt K mg)  (len : ∀ vs H Q E, sp_part_signed K vs H Q E → vs.length = 2)
    (pure : ∀ vs H Q E, sp_part_signed K vs H Q E → t_part_signed K E { nx := fun _ H' => Q .non H', rt := Q } (start ["part", "bits"] vs) H) : CallG P w K mg base CX0 1 "part_signed" ["part", "bits"] (sp_part_signed K) := by
  obtain ⟨fd, F⟩ := T.d_part_signed
  refine ⟨_, fd, F.ok sc_part_signed len (fun cdv A outer s H vs Q E hr h => ⟨t_part_signed K E, ?_, pure vs H Q E h⟩), T.g_part_signed, F.kp, F.bindsN fun _ _ _ _ _ _ us hl => match us, hl with | [_, _], _ => rfl⟩
  exact PSs.nox (pss_cons (ps_if (pt_cmpR op_eq (pe_op op_shr (pv 0) (pe_op op_sub (pv 1) pe_int)) pe_int (nomark _)) (pss_one (ps_ret (pe_op op_sub (pv 0) (pe_op op_shl pe_int (pv 1))))) pss_nil)
      (pss_one (ps_ret (pv 0))))
theorem sc_signed : FnScope ["word"] ["word"] (defScope s_signed) := ⟨rfl, rfl, rfl, by decide +kernel, rfl, by decide +kernel, by decide +kernel⟩
def t_signed (K : PySem.W.Frag) (E : XK) : TS :=
  (tRet (tCall (sp_part_signed K) [] E0 (tCons (tVar 0) (tCons (tC (.int 32)) tNil))))
theorem ok_signed (T : Txt K mg) (G_part_signed : CallG P w K mg base CX0 1 "part_signed" ["part", "bits"] (sp_part_signed K)) (len : ∀ vs H Q E, sp_signed K vs H Q E → vs.length = 1)
    (pure : ∀ vs H Q E, sp_signed K vs H Q E → t_signed K E { nx := fun _ H' => Q .non H', rt := Q } (start ["word"] vs) H) : CallG P w K mg base CX0 2 "signed" ["word"] (sp_signed K) := by
  obtain ⟨fd, F⟩ := T.d_signed
  refine ⟨_, fd, F.ok sc_signed len (fun cdv A outer s H vs Q E hr h => ⟨t_signed K E, ?_, pure vs H Q E h⟩), T.g_signed, F.kp, F.bindsN fun _ _ _ _ _ _ us hl => match us, hl with | [_], _ => rfl⟩
  exact PSs.nox (pss_one (ps_ret (pc G_part_signed (hr.mono (by decide)) pass0 (by exact (pa_cons (pv 0) (pa_cons pe_int pa_nil))))))
theorem sc_bits_of : FnScope ["word", "last", "many"] ["word", "last", "many"] (defScope s_bits_of) := ⟨rfl, rfl, rfl, by decide +kernel, rfl, by decide +kernel, by decide +kernel⟩
def t_bits_of (K : PySem.W.Frag) (E : XK) : TS :=
  (tRet (tOp rModI (tOp rShrI (tVar 0) (tVar 1)) (tOp rShlI (tC (.int 1)) (tVar 2))))
theorem ok_bits_of (T : Txt K mg)  (len : ∀ vs H Q E, sp_bits_of K vs H Q E → vs.length = 3)
    (pure : ∀ vs H Q E, sp_bits_of K vs H Q E → t_bits_of K E { nx := fun _ H' => Q .non H', rt := Q } (start ["word", "last", "many"] vs) H) : CallG P w K mg base CX0 1 "bits_of" ["word", "last", "many"] (sp_bits_of K) := by
  obtain ⟨fd, F⟩ := T.d_bits_of
  refine ⟨_, fd, F.ok sc_bits_of len (fun cdv A outer s H vs Q E hr h => ⟨t_bits_of K E, ?_, pure vs H Q E h⟩), T.g_bits_of, F.kp, F.bindsN fun _ _ _ _ _ _ us hl => match us, hl with | [_, _, _], _ => rfl⟩
  exact PSs.nox (pss_one (ps_ret (pe_op op_mod (pe_op op_shr (pv 0) (pv 1)) (pe_op op_shl pe_int (pv 2)))))
theorem sc_is_fit : FnScope ["number"] ["number"] (defScope s_is_fit) := ⟨rfl, rfl, rfl, by decide +kernel, rfl, by decide +kernel, by decide +kernel⟩
def t_is_fit (K : PySem.W.Frag) (E : XK) : TS :=
  (tRet (tChain rLeB rLtB (tOp rSubI (tC (.int 0)) (tC (.int 2147483648))) (tVar 0) (tC (.int 2147483648))))
theorem ok_is_fit (T : Txt K mg)  (len : ∀ vs H Q E, sp_is_fit K vs H Q E → vs.length = 1)
    (pure : ∀ vs H Q E, sp_is_fit K vs H Q E → t_is_fit K E { nx := fun _ H' => Q .non H', rt := Q } (start ["number"] vs) H) : CallG P w K mg base CX0 1 "is_fit" ["number"] (sp_is_fit K) := by
  obtain ⟨fd, F⟩ := T.d_is_fit
  refine ⟨_, fd, F.ok sc_is_fit len (fun cdv A outer s H vs Q E hr h => ⟨t_is_fit K E, ?_, pure vs H Q E h⟩), T.g_is_fit, F.kp, F.bindsN fun _ _ _ _ _ _ us hl => match us, hl with | [_], _ => rfl⟩
  exact PSs.nox (pss_one (ps_ret (pe_chain op_le op_lt (pe_op op_sub pe_int (pgi T.i_HALF)) (pv 0) (pgi T.i_HALF))))
theorem sc_Conditions_init : FnScope ["self", "n", "z", "v", "c"] ["self", "n", "z", "v", "c"] (defScope s_Conditions_init) := ⟨rfl, rfl, rfl, by decide +kernel, rfl, by decide +kernel, by decide +kernel⟩
def t_Conditions_init (K : PySem.W.Frag) (E : XK) : TS :=
  (tSeq (sFld K (tVar 0) (tVar 1) "n")
    (tSeq (sFld K (tVar 0) (tVar 2) "z")
    (tSeq (sFld K (tVar 0) (tVar 3) "v")
    (sFld K (tVar 0) (tVar 4) "c"))))
theorem ok_Conditions_init (T : Txt K mg)  (len : ∀ vs H Q E, sp_Conditions_init K vs H Q E → vs.length = 5)
    (pure : ∀ vs H Q E, sp_Conditions_init K vs H Q E → t_Conditions_init K E { nx := fun _ H' => Q .non H', rt := Q } (start ["self", "n", "z", "v", "c"] vs) H) : MakeG P w K mg base CX0 1 "Conditions" (He.ga K "Conditions") ["self", "n", "z", "v", "c"] (sp_Conditions_init K) := by
  obtain ⟨fd, F⟩ := T.d_Conditions_init
  refine ⟨_, fd, F.ok sc_Conditions_init len (fun cdv A outer s H vs Q E hr h => ⟨t_Conditions_init K E, ?_, pure vs H Q E h⟩), T.mk_Conditions, T.g_Conditions, F.bindsN fun _ _ _ _ _ _ us hl => match us, hl with | [_, _, _, _, _], _ => rfl⟩
  exact PSs.nox (pss_cons (ps_fld (pv 0) (pv 1) rfl)
      (pss_cons (ps_fld (pv 0) (pv 2) rfl)
      (pss_cons (ps_fld (pv 0) (pv 3) rfl)
      (pss_one (ps_fld (pv 0) (pv 4) rfl)))))
theorem sc_Conditions_bits : FnScope ["self"] ["self"] (defScope s_Conditions_bits) := ⟨rfl, rfl, rfl, by decide +kernel, rfl, by decide +kernel, by decide +kernel⟩
def t_Conditions_bits (K : PySem.W.Frag) (E : XK) : TS :=
  (tRet (tOp rAddI (tOp rAddI (tOp rAddI (tOp rMulI (tC (.int 8)) (tCB rInt1 (tCons (tFld K (tVar 0) "n") tNil))) (tOp rMulI (tC (.int 4)) (tCB rInt1 (tCons (tFld K (tVar 0) "z") tNil)))) (tOp rMulI (tC (.int 2)) (tCB rInt1 (tCons (tFld K (tVar 0) "v") tNil)))) (tCB rInt1 (tCons (tFld K (tVar 0) "c") tNil))))
theorem ok_Conditions_bits (T : Txt K mg)  (len : ∀ vs H Q E, sp_Conditions_bits K vs H Q E → vs.length = 1)
    (pure : ∀ vs H Q E, sp_Conditions_bits K vs H Q E → t_Conditions_bits K E { nx := fun _ H' => Q .non H', rt := Q } (start ["self"] vs) H) : MethG P w K mg base CX0 1 (He.ga K "Conditions") "bits" ["self"] (sp_Conditions_bits K) := by
  obtain ⟨fd, F⟩ := T.d_Conditions_bits
  refine ⟨_, fd, F.ok sc_Conditions_bits len (fun cdv A outer s H vs Q E hr h => ⟨t_Conditions_bits K E, ?_, pure vs H Q E h⟩), T.m_Conditions_bits, F.bindsN fun _ _ _ _ _ _ us hl => match us, hl with | [_], _ => rfl⟩
  exact PSs.nox (pss_one (ps_ret (pe_op op_add (pe_op op_add (pe_op op_add (pe_op op_mul pe_int (pe_callTy call_int1 (by rfl) T.f_int (by decide +kernel) (by exact (pa_cons (pe_fld (pv 0) rfl) pa_nil)))) (pe_op op_mul pe_int (pe_callTy call_int1 (by rfl) T.f_int (by decide +kernel) (by exact (pa_cons (pe_fld (pv 0) rfl) pa_nil))))) (pe_op op_mul pe_int (pe_callTy call_int1 (by rfl) T.f_int (by decide +kernel) (by exact (pa_cons (pe_fld (pv 0) rfl) pa_nil))))) (pe_callTy call_int1 (by rfl) T.f_int (by decide +kernel) (by exact (pa_cons (pe_fld (pv 0) rfl) pa_nil))))))
theorem sc_Conditions_first : FnScope ["self", "number", "unlike", "ways"] ["self", "number"] (defScope s_Conditions_first) := ⟨rfl, rfl, rfl, by decide +kernel, rfl, by decide +kernel, by decide +kernel⟩
def t_Conditions_first (K : PySem.W.Frag) (E : XK) : TS :=
  (tSeq (tAsg (tOp rNe (tFld K (tVar 0) "n") (tFld K (tVar 0) "v")) (gName 2))
    (tSeq (tAsg (tLst (tCons (tC (.bl false)) (tCons (tFld K (tVar 0) "z") (tCons (tOrV (tFld K (tVar 0) "z") (tVar 2)) (tCons (tVar 2) (tCons (tOrV (tFld K (tVar 0) "c") (tFld K (tVar 0) "z")) (tCons (tFld K (tVar 0) "c") (tCons (tFld K (tVar 0) "n") (tCons (tFld K (tVar 0) "v") tNil))))))))) (gName 3))
    (tRet (tOp (rIxL K) (tVar 3) (tVar 1)))))
theorem ok_Conditions_first (T : Txt K mg)  (len : ∀ vs H Q E, sp_Conditions_first K vs H Q E → vs.length = 2)
    (pure : ∀ vs H Q E, sp_Conditions_first K vs H Q E → t_Conditions_first K E { nx := fun _ H' => Q .non H', rt := Q } (start ["self", "number", "unlike", "ways"] vs) H) : MethG P w K mg base CX0 1 (He.ga K "Conditions") "first" ["self", "number"] (sp_Conditions_first K) := by
  obtain ⟨fd, F⟩ := T.d_Conditions_first
  refine ⟨_, fd, F.ok sc_Conditions_first len (fun cdv A outer s H vs Q E hr h => ⟨t_Conditions_first K E, ?_, pure vs H Q E h⟩), T.m_Conditions_first, F.bindsN fun _ _ _ _ _ _ us hl => match us, hl with | [_, _], _ => rfl⟩
  exact PSs.nox (pss_cons (ps_set (i := 2) sc_Conditions_first.nd rfl (Or.inl rfl) (pe_cmpR op_ne (pe_fld (pv 0) rfl) (pe_fld (pv 0) rfl) (nomark _)))
      (pss_cons (ps_set (i := 3) sc_Conditions_first.nd rfl (Or.inl rfl) (pe_lst (pa_cons pe_bl (pa_cons (pe_fld (pv 0) rfl) (pa_cons (pe_or (pe_fld (pv 0) rfl) (pe_one (pv 2))) (pa_cons (pv 2) (pa_cons (pe_or (pe_fld (pv 0) rfl) (pe_one (pe_fld (pv 0) rfl))) (pa_cons (pe_fld (pv 0) rfl) (pa_cons (pe_fld (pv 0) rfl) (pa_cons (pe_fld (pv 0) rfl) pa_nil))))))))))
      (pss_one (ps_ret (pe_ix ix_list (pv 3) (pv 1) (fun _ _ => rfl))))))
theorem sc_Conditions_holds : FnScope ["self", "number"] ["self", "number"] (defScope s_Conditions_holds) := ⟨rfl, rfl, rfl, by decide +kernel, rfl, by decide +kernel, by decide +kernel⟩
def t_Conditions_holds (K : PySem.W.Frag) (E : XK) : TS :=
  (tRet (tOp rNe (tMeth (He.ga K "Conditions") "first" (sp_Conditions_first K) [] E0 (tVar 0) (tCons (tOp rModI (tVar 1) (tC (.int 8))) tNil)) (tOp rGeB (tVar 1) (tC (.int 8)))))
theorem ok_Conditions_holds (T : Txt K mg) (G_Conditions_first : MethG P w K mg base CX0 1 (He.ga K "Conditions") "first" ["self", "number"] (sp_Conditions_first K)) (len : ∀ vs H Q E, sp_Conditions_holds K vs H Q E → vs.length = 2)
    (pure : ∀ vs H Q E, sp_Conditions_holds K vs H Q E → t_Conditions_holds K E { nx := fun _ H' => Q .non H', rt := Q } (start ["self", "number"] vs) H) : MethG P w K mg base CX0 2 (He.ga K "Conditions") "holds" ["self", "number"] (sp_Conditions_holds K) := by
  obtain ⟨fd, F⟩ := T.d_Conditions_holds
  refine ⟨_, fd, F.ok sc_Conditions_holds len (fun cdv A outer s H vs Q E hr h => ⟨t_Conditions_holds K E, ?_, pure vs H Q E h⟩), T.m_Conditions_holds, F.bindsN fun _ _ _ _ _ _ us hl => match us, hl with | [_, _], _ => rfl⟩
  exact PSs.nox (pss_one (ps_ret (pe_cmpR op_ne (pm G_Conditions_first T.cl_Conditions (hr.mono (by decide)) pass0 (pv 0) (by exact (pa_cons (pe_op op_mod (pv 1) pe_int) pa_nil))) (pe_cmpR op_ge (pv 1) pe_int (nomark _)) (nomark _))))
theorem sc_conditions_of : FnScope ["bits"] ["bits"] (defScope s_conditions_of) := ⟨rfl, rfl, rfl, by decide +kernel, rfl, by decide +kernel, by decide +kernel⟩
def t_conditions_of (K : PySem.W.Frag) (E : XK) : TS :=
  (tRet (tMake (He.ga K "Conditions") (sp_Conditions_init K) [] E0 (tCons (tOp rEq (tCall (sp_bits_of K) [] E0 (tCons (tVar 0) (tCons (tC (.int 3)) (tCons (tC (.int 1)) tNil)))) (tC (.int 1))) (tCons (tOp rEq (tCall (sp_bits_of K) [] E0 (tCons (tVar 0) (tCons (tC (.int 2)) (tCons (tC (.int 1)) tNil)))) (tC (.int 1))) (tCons (tOp rEq (tCall (sp_bits_of K) [] E0 (tCons (tVar 0) (tCons (tC (.int 1)) (tCons (tC (.int 1)) tNil)))) (tC (.int 1))) (tCons (tOp rEq (tOp rModI (tVar 0) (tC (.int 2))) (tC (.int 1))) tNil))))))
theorem ok_conditions_of (T : Txt K mg) (G_bits_of : CallG P w K mg base CX0 1 "bits_of" ["word", "last", "many"] (sp_bits_of K)) (G_new_Conditions : MakeG P w K mg base CX0 1 "Conditions" (He.ga K "Conditions") ["self", "n", "z", "v", "c"] (sp_Conditions_init K)) (len : ∀ vs H Q E, sp_conditions_of K vs H Q E → vs.length = 1)
    (pure : ∀ vs H Q E, sp_conditions_of K vs H Q E → t_conditions_of K E { nx := fun _ H' => Q .non H', rt := Q } (start ["bits"] vs) H) : CallG P w K mg base CX0 3 "conditions_of" ["bits"] (sp_conditions_of K) := by
  obtain ⟨fd, F⟩ := T.d_conditions_of
  refine ⟨_, fd, F.ok sc_conditions_of len (fun cdv A outer s H vs Q E hr h => ⟨t_conditions_of K E, ?_, pure vs H Q E h⟩), T.g_conditions_of, F.kp, F.bindsN fun _ _ _ _ _ _ us hl => match us, hl with | [_], _ => rfl⟩
  exact PSs.nox (pss_one (ps_ret (pk G_new_Conditions (hr.mono (by decide)) pass0 (by exact (pa_cons (pe_cmpR op_eq (pc G_bits_of (hr.mono (by decide)) pass0 (by exact (pa_cons (pv 0) (pa_cons pe_int (pa_cons pe_int pa_nil))))) pe_int (nomark _)) (pa_cons (pe_cmpR op_eq (pc G_bits_of (hr.mono (by decide)) pass0 (by exact (pa_cons (pv 0) (pa_cons pe_int (pa_cons pe_int pa_nil))))) pe_int (nomark _)) (pa_cons (pe_cmpR op_eq (pc G_bits_of (hr.mono (by decide)) pass0 (by exact (pa_cons (pv 0) (pa_cons pe_int (pa_cons pe_int pa_nil))))) pe_int (nomark _)) (pa_cons (pe_cmpR op_eq (pe_op op_mod (pv 0) pe_int) pe_int (nomark _)) pa_nil))))))))
theorem sc_conditions_by : FnScope ["word", "v", "c"] ["word", "v", "c"] (defScope s_conditions_by) := ⟨rfl, rfl, rfl, by decide +kernel, rfl, by decide +kernel, by decide +kernel⟩
def t_conditions_by (K : PySem.W.Frag) (E : XK) : TS :=
  (tRet (tMake (He.ga K "Conditions") (sp_Conditions_init K) [] E0 (tCons (tOp rGeB (tVar 0) (tC (.int 2147483648))) (tCons (tOp rEq (tVar 0) (tC (.int 0))) (tCons (tVar 1) (tCons (tVar 2) tNil))))))
theorem ok_conditions_by (T : Txt K mg) (G_new_Conditions : MakeG P w K mg base CX0 1 "Conditions" (He.ga K "Conditions") ["self", "n", "z", "v", "c"] (sp_Conditions_init K)) (len : ∀ vs H Q E, sp_conditions_by K vs H Q E → vs.length = 3)
    (pure : ∀ vs H Q E, sp_conditions_by K vs H Q E → t_conditions_by K E { nx := fun _ H' => Q .non H', rt := Q } (start ["word", "v", "c"] vs) H) : CallG P w K mg base CX0 3 "conditions_by" ["word", "v", "c"] (sp_conditions_by K) := by
  obtain ⟨fd, F⟩ := T.d_conditions_by
  refine ⟨_, fd, F.ok sc_conditions_by len (fun cdv A outer s H vs Q E hr h => ⟨t_conditions_by K E, ?_, pure vs H Q E h⟩), T.g_conditions_by, F.kp, F.bindsN fun _ _ _ _ _ _ us hl => match us, hl with | [_, _, _], _ => rfl⟩
  exact PSs.nox (pss_one (ps_ret (pk G_new_Conditions (hr.mono (by decide)) pass0 (by exact (pa_cons (pe_cmpR op_ge (pv 0) (pgi T.i_HALF) (nomark _)) (pa_cons (pe_cmpR op_eq (pv 0) pe_int (nomark _)) (pa_cons (pv 1) (pa_cons (pv 2) pa_nil))))))))
theorem sc_total : FnScope ["a", "b", "more", "word", "fits"] ["a", "b", "more"] (defScope s_total) := ⟨rfl, rfl, rfl, by decide +kernel, rfl, by decide +kernel, by decide +kernel⟩
def t_total (K : PySem.W.Frag) (E : XK) : TS :=
  (tSeq (tAsg (tOp rModI (tOp rAddI (tOp rAddI (tVar 0) (tVar 1)) (tVar 2)) (tC (.int 4294967296))) (gName 3))
    (tSeq (tAsg (tCall (sp_is_fit K) [] E0 (tCons (tOp rAddI (tOp rAddI (tCall (sp_signed K) [] E0 (tCons (tVar 0) tNil)) (tCall (sp_signed K) [] E0 (tCons (tVar 1) tNil))) (tVar 2)) tNil)) (gName 4))
    (tRet (tTup (tCons (tVar 3) (tCons (tCall (sp_conditions_by K) [] E0 (tCons (tVar 3) (tCons (tNotV (tVar 4)) (tCons (tOp rGeB (tOp rAddI (tOp rAddI (tVar 0) (tVar 1)) (tVar 2)) (tC (.int 4294967296))) tNil)))) tNil))))))
theorem ok_total (T : Txt K mg) (G_conditions_by : CallG P w K mg base CX0 3 "conditions_by" ["word", "v", "c"] (sp_conditions_by K)) (G_signed : CallG P w K mg base CX0 2 "signed" ["word"] (sp_signed K)) (G_is_fit : CallG P w K mg base CX0 1 "is_fit" ["number"] (sp_is_fit K)) (len : ∀ vs H Q E, sp_total K vs H Q E → vs.length = 3)
    (pure : ∀ vs H Q E, sp_total K vs H Q E → t_total K E { nx := fun _ H' => Q .non H', rt := Q } (start ["a", "b", "more", "word", "fits"] vs) H) : CallG P w K mg base CX0 4 "total" ["a", "b", "more"] (sp_total K) := by
  obtain ⟨fd, F⟩ := T.d_total
  refine ⟨_, fd, F.ok sc_total len (fun cdv A outer s H vs Q E hr h => ⟨t_total K E, ?_, pure vs H Q E h⟩), T.g_total, F.kp, F.bindsN fun _ _ _ _ _ _ us hl => match us, hl with | [_, _, _], _ => rfl⟩
  exact PSs.nox (pss_cons (ps_set (i := 3) sc_total.nd rfl (Or.inl rfl) (pe_op op_mod (pe_op op_add (pe_op op_add (pv 0) (pv 1)) (pv 2)) (pgi T.i_WORD)))
      (pss_cons (ps_set (i := 4) sc_total.nd rfl (Or.inl rfl) (pc G_is_fit (hr.mono (by decide)) pass0 (by exact (pa_cons (pe_op op_add (pe_op op_add (pc G_signed (hr.mono (by decide)) pass0 (by exact (pa_cons (pv 0) pa_nil))) (pc G_signed (hr.mono (by decide)) pass0 (by exact (pa_cons (pv 1) pa_nil)))) (pv 2)) pa_nil))))
      (pss_one (ps_ret (pe_tup (pa_cons (pv 3) (pa_cons (pc G_conditions_by (hr.mono (by decide)) pass0 (by exact (pa_cons (pv 3) (pa_cons (pe_not (pv 4)) (pa_cons (pe_cmpR op_ge (pe_op op_add (pe_op op_add (pv 0) (pv 1)) (pv 2)) (pgi T.i_WORD) (nomark _)) pa_nil))))) pa_nil)))))))
theorem sc_difference : FnScope ["a", "b", "more", "word", "fits"] ["a", "b", "more"] (defScope s_difference) := ⟨rfl, rfl, rfl, by decide +kernel, rfl, by decide +kernel, by decide +kernel⟩
def t_difference (K : PySem.W.Frag) (E : XK) : TS :=
  (tSeq (tAsg (tOp rModI (tOp rSubI (tOp rSubI (tVar 0) (tVar 1)) (tVar 2)) (tC (.int 4294967296))) (gName 3))
    (tSeq (tAsg (tCall (sp_is_fit K) [] E0 (tCons (tOp rSubI (tOp rSubI (tCall (sp_signed K) [] E0 (tCons (tVar 0) tNil)) (tCall (sp_signed K) [] E0 (tCons (tVar 1) tNil))) (tVar 2)) tNil)) (gName 4))
    (tRet (tTup (tCons (tVar 3) (tCons (tCall (sp_conditions_by K) [] E0 (tCons (tVar 3) (tCons (tNotV (tVar 4)) (tCons (tOp rLtB (tOp rSubI (tOp rSubI (tVar 0) (tVar 1)) (tVar 2)) (tC (.int 0))) tNil)))) tNil))))))
theorem ok_difference (T : Txt K mg) (G_conditions_by : CallG P w K mg base CX0 3 "conditions_by" ["word", "v", "c"] (sp_conditions_by K)) (G_signed : CallG P w K mg base CX0 2 "signed" ["word"] (sp_signed K)) (G_is_fit : CallG P w K mg base CX0 1 "is_fit" ["number"] (sp_is_fit K)) (len : ∀ vs H Q E, sp_difference K vs H Q E → vs.length = 3)
    (pure : ∀ vs H Q E, sp_difference K vs H Q E → t_difference K E { nx := fun _ H' => Q .non H', rt := Q } (start ["a", "b", "more", "word", "fits"] vs) H) : CallG P w K mg base CX0 4 "difference" ["a", "b", "more"] (sp_difference K) := by
  obtain ⟨fd, F⟩ := T.d_difference
  refine ⟨_, fd, F.ok sc_difference len (fun cdv A outer s H vs Q E hr h => ⟨t_difference K E, ?_, pure vs H Q E h⟩), T.g_difference, F.kp, F.bindsN fun _ _ _ _ _ _ us hl => match us, hl with | [_, _, _], _ => rfl⟩
  exact PSs.nox (pss_cons (ps_set (i := 3) sc_difference.nd rfl (Or.inl rfl) (pe_op op_mod (pe_op op_sub (pe_op op_sub (pv 0) (pv 1)) (pv 2)) (pgi T.i_WORD)))
      (pss_cons (ps_set (i := 4) sc_difference.nd rfl (Or.inl rfl) (pc G_is_fit (hr.mono (by decide)) pass0 (by exact (pa_cons (pe_op op_sub (pe_op op_sub (pc G_signed (hr.mono (by decide)) pass0 (by exact (pa_cons (pv 0) pa_nil))) (pc G_signed (hr.mono (by decide)) pass0 (by exact (pa_cons (pv 1) pa_nil)))) (pv 2)) pa_nil))))
      (pss_one (ps_ret (pe_tup (pa_cons (pv 3) (pa_cons (pc G_conditions_by (hr.mono (by decide)) pass0 (by exact (pa_cons (pv 3) (pa_cons (pe_not (pv 4)) (pa_cons (pe_cmpR op_lt (pe_op op_sub (pe_op op_sub (pv 0) (pv 1)) (pv 2)) pe_int (nomark _)) pa_nil))))) pa_nil)))))))
theorem sc_plain : FnScope ["word"] ["word"] (defScope s_plain) := ⟨rfl, rfl, rfl, by decide +kernel, rfl, by decide +kernel, by decide +kernel⟩
def t_plain (K : PySem.W.Frag) (E : XK) : TS :=
  (tRet (tTup (tCons (tVar 0) (tCons (tCall (sp_conditions_by K) [] E0 (tCons (tVar 0) (tCons (tC (.bl false)) (tCons (tC (.bl false)) tNil)))) tNil))))
theorem ok_plain (T : Txt K mg) (G_conditions_by : CallG P w K mg base CX0 3 "conditions_by" ["word", "v", "c"] (sp_conditions_by K)) (len : ∀ vs H Q E, sp_plain K vs H Q E → vs.length = 1)
    (pure : ∀ vs H Q E, sp_plain K vs H Q E → t_plain K E { nx := fun _ H' => Q .non H', rt := Q } (start ["word"] vs) H) : CallG P w K mg base CX0 4 "plain" ["word"] (sp_plain K) := by
  obtain ⟨fd, F⟩ := T.d_plain
  refine ⟨_, fd, F.ok sc_plain len (fun cdv A outer s H vs Q E hr h => ⟨t_plain K E, ?_, pure vs H Q E h⟩), T.g_plain, F.kp, F.bindsN fun _ _ _ _ _ _ us hl => match us, hl with | [_], _ => rfl⟩
  exact PSs.nox (pss_one (ps_ret (pe_tup (pa_cons (pv 0) (pa_cons (pc G_conditions_by (hr.mono (by decide)) pass0 (by exact (pa_cons (pv 0) (pa_cons pe_bl (pa_cons pe_bl pa_nil))))) pa_nil)))))
theorem sc_by_bits : FnScope ["op", "a", "b"] ["op", "a", "b"] (defScope s_by_bits) := ⟨rfl, rfl, rfl, by decide +kernel, rfl, by decide +kernel, by decide +kernel⟩
def t_by_bits (K : PySem.W.Frag) (E : XK) : TS :=
  (tSeq (tIfS (tTest (tOp rGtB (tVar 0) (tC (.int 4)))) (tAsg (tOp rSubI (tC (.int 4294967295)) (tVar 2)) (gName 2)) tNext)
    (tSeq (tIfS (tTest (tOp rEq (tOp rModI (tVar 0) (tC (.int 4))) (tC (.int 1)))) (tRet (tCall (sp_plain K) [] E0 (tCons (tOp rAndI (tVar 1) (tVar 2)) tNil))) tNext)
    (tSeq (tIfS (tTest (tOp rEq (tOp rModI (tVar 0) (tC (.int 4))) (tC (.int 2)))) (tRet (tCall (sp_plain K) [] E0 (tCons (tOp rOrI (tVar 1) (tVar 2)) tNil))) tNext)
    (tRet (tCall (sp_plain K) [] E0 (tCons (tOp rXorI (tVar 1) (tVar 2)) tNil))))))
theorem ok_by_bits (T : Txt K mg) (G_plain : CallG P w K mg base CX0 4 "plain" ["word"] (sp_plain K)) (len : ∀ vs H Q E, sp_by_bits K vs H Q E → vs.length = 3)
    (pure : ∀ vs H Q E, sp_by_bits K vs H Q E → t_by_bits K E { nx := fun _ H' => Q .non H', rt := Q } (start ["op", "a", "b"] vs) H) : CallG P w K mg base CX0 5 "by_bits" ["op", "a", "b"] (sp_by_bits K) := by
  obtain ⟨fd, F⟩ := T.d_by_bits
  refine ⟨_, fd, F.ok sc_by_bits len (fun cdv A outer s H vs Q E hr h => ⟨t_by_bits K E, ?_, pure vs H Q E h⟩), T.g_by_bits, F.kp, F.bindsN fun _ _ _ _ _ _ us hl => match us, hl with | [_, _, _], _ => rfl⟩
  exact PSs.nox (pss_cons (ps_if (pt_cmpR op_gt (pv 0) pe_int (nomark _)) (pss_one (ps_set (i := 2) sc_by_bits.nd rfl (Or.inl rfl) (pe_op op_sub (pgi T.i_ALL_BITS) (pv 2)))) pss_nil)
      (pss_cons (ps_if (pt_cmpR op_eq (pe_op op_mod (pv 0) pe_int) pe_int (nomark _)) (pss_one (ps_ret (pc G_plain (hr.mono (by decide)) pass0 (by exact (pa_cons (pe_op op_and (pv 1) (pv 2)) pa_nil))))) pss_nil)
      (pss_cons (ps_if (pt_cmpR op_eq (pe_op op_mod (pv 0) pe_int) pe_int (nomark _)) (pss_one (ps_ret (pc G_plain (hr.mono (by decide)) pass0 (by exact (pa_cons (pe_op op_or (pv 1) (pv 2)) pa_nil))))) pss_nil)
      (pss_one (ps_ret (pc G_plain (hr.mono (by decide)) pass0 (by exact (pa_cons (pe_op op_xor (pv 1) (pv 2)) pa_nil))))))))
theorem sc_product : FnScope ["a", "b", "with_signs", "found"] ["a", "b", "with_signs"] (defScope s_product) := ⟨rfl, rfl, rfl, by decide +kernel, rfl, by decide +kernel, by decide +kernel⟩
def t_product (K : PySem.W.Frag) (E : XK) : TS :=
  (tSeq (tAsg (tOp rMulI (tVar 0) (tVar 1)) (gName 3))
    (tSeq (tIfS (tB (tVar 2)) (tAsg (tOp rMulI (tCall (sp_signed K) [] E0 (tCons (tVar 0) tNil)) (tCall (sp_signed K) [] E0 (tCons (tVar 1) tNil))) (gName 3)) tNext)
    (tRet (tTup (tCons (tOp rModI (tVar 3) (tC (.int 4294967296))) (tCons (tOp rModI (tOp rFdivW (tVar 3) (tC (.int 4294967296))) (tC (.int 4294967296))) tNil))))))
theorem ok_product (T : Txt K mg) (G_signed : CallG P w K mg base CX0 2 "signed" ["word"] (sp_signed K)) (len : ∀ vs H Q E, sp_product K vs H Q E → vs.length = 3)
    (pure : ∀ vs H Q E, sp_product K vs H Q E → t_product K E { nx := fun _ H' => Q .non H', rt := Q } (start ["a", "b", "with_signs", "found"] vs) H) : CallG P w K mg base CX0 3 "product" ["a", "b", "with_signs"] (sp_product K) := by
  obtain ⟨fd, F⟩ := T.d_product
  refine ⟨_, fd, F.ok sc_product len (fun cdv A outer s H vs Q E hr h => ⟨t_product K E, ?_, pure vs H Q E h⟩), T.g_product, F.kp, F.bindsN fun _ _ _ _ _ _ us hl => match us, hl with | [_, _, _], _ => rfl⟩
  exact PSs.nox (pss_cons (ps_set (i := 3) sc_product.nd rfl (Or.inl rfl) (pe_op op_mul (pv 0) (pv 1)))
      (pss_cons (ps_if (pt_val (pv 2)) (pss_one (ps_set (i := 3) sc_product.nd rfl (Or.inl rfl) (pe_op op_mul (pc G_signed (hr.mono (by decide)) pass0 (by exact (pa_cons (pv 0) pa_nil))) (pc G_signed (hr.mono (by decide)) pass0 (by exact (pa_cons (pv 1) pa_nil)))))) pss_nil)
      (pss_one (ps_ret (pe_tup (pa_cons (pe_op op_mod (pv 3) (pgi T.i_WORD)) (pa_cons (pe_op op_mod (pe_op op_fdivW (pv 3) (pgi T.i_WORD)) (pgi T.i_WORD)) pa_nil)))))))
theorem sc_toward_nought : FnScope ["one", "other", "found"] ["one", "other"] (defScope s_toward_nought) := ⟨rfl, rfl, rfl, by decide +kernel, rfl, by decide +kernel, by decide +kernel⟩
def t_toward_nought (K : PySem.W.Frag) (E : XK) : TS :=
  (tSeq (tAsg (tOp rFdivW (tCB rAbs (tCons (tVar 0) tNil)) (tCB rAbs (tCons (tVar 1) tNil))) (gName 2))
    (tSeq (tIfS (tTest (tOp rNe (tOp rLtB (tVar 0) (tC (.int 0))) (tOp rLtB (tVar 1) (tC (.int 0))))) (tRet (tOp rSubI (tC (.int 0)) (tVar 2))) tNext)
    (tRet (tVar 2))))
theorem ok_toward_nought (T : Txt K mg)  (len : ∀ vs H Q E, sp_toward_nought K vs H Q E → vs.length = 2)
    (pure : ∀ vs H Q E, sp_toward_nought K vs H Q E → t_toward_nought K E { nx := fun _ H' => Q .non H', rt := Q } (start ["one", "other", "found"] vs) H) : CallG P w K mg base CX0 1 "toward_nought" ["one", "other"] (sp_toward_nought K) := by
  obtain ⟨fd, F⟩ := T.d_toward_nought
  refine ⟨_, fd, F.ok sc_toward_nought len (fun cdv A outer s H vs Q E hr h => ⟨t_toward_nought K E, ?_, pure vs H Q E h⟩), T.g_toward_nought, F.kp, F.bindsN fun _ _ _ _ _ _ us hl => match us, hl with | [_, _], _ => rfl⟩
  exact PSs.nox (pss_cons (ps_set (i := 2) sc_toward_nought.nd rfl (Or.inl rfl) (pe_op op_fdivW (pe_callB call_abs (by rfl) T.f_abs (by decide +kernel) (by exact (pa_cons (pv 0) pa_nil))) (pe_callB call_abs (by rfl) T.f_abs (by decide +kernel) (by exact (pa_cons (pv 1) pa_nil)))))
      (pss_cons (ps_if (pt_cmpR op_ne (pe_cmpR op_lt (pv 0) pe_int (nomark _)) (pe_cmpR op_lt (pv 1) pe_int (nomark _)) (nomark _)) (pss_one (ps_ret (pe_op op_sub pe_int (pv 2)))) pss_nil)
      (pss_one (ps_ret (pv 2)))))
theorem sc_quotient : FnScope ["y", "a", "b", "with_signs", "high", "found"] ["y", "a", "b", "with_signs"] (defScope s_quotient) := ⟨rfl, rfl, rfl, by decide +kernel, rfl, by decide +kernel, by decide +kernel⟩
def t_quotient (K : PySem.W.Frag) (E : XK) : TS :=
  (tSeq (tIfS (tTest (tOp rEq (tVar 2) (tC (.int 0)))) (tTrap K (fun cls d _ H => E cls d H) (tCons (tC (.int 42)) tNil)) tNext)
    (tSeq (tAsg (tOp rAddI (tOp rMulI (tC (.int 4294967296)) (tVar 0)) (tVar 1)) (gName 4))
    (tSeq (tIfS (tNot (tB (tVar 3))) (tSeq (tAsg (tOp rFdivW (tVar 4) (tVar 2)) (gName 5))
    (tRet (tCall (sp_cut_off K) [] E0 (tCons (tVar 5) (tCons (tC (.int 0)) (tCons (tC (.int 4294967295)) tNil)))))) tNext)
    (tSeq (tIfS (tTest (tOp rGeB (tVar 4) (tOp rMulI (tC (.int 2147483648)) (tC (.int 4294967296))))) (tAsg (tOp rSubI (tVar 4) (tOp rMulI (tC (.int 4294967296)) (tC (.int 4294967296)))) (gName 4)) tNext)
    (tRet (tCall (sp_cut_off K) [] E0 (tCons (tCall (sp_toward_nought K) [] E0 (tCons (tVar 4) (tCons (tCall (sp_signed K) [] E0 (tCons (tVar 2) tNil)) tNil))) (tCons (tOp rSubI (tC (.int 0)) (tC (.int 2147483648))) (tCons (tOp rSubI (tC (.int 2147483648)) (tC (.int 1))) tNil)))))))))
theorem ok_quotient (T : Txt K mg) (G_signed : CallG P w K mg base CX0 2 "signed" ["word"] (sp_signed K)) (G_toward_nought : CallG P w K mg base CX0 1 "toward_nought" ["one", "other"] (sp_toward_nought K)) (G_cut_off : CallG P w K mg base CX0 4 "cut_off" ["found", "least", "most"] (sp_cut_off K)) (G_trap : TrapG P w K mg base) (len : ∀ vs H Q E, sp_quotient K vs H Q E → vs.length = 4)
    (pure : ∀ vs H Q E, sp_quotient K vs H Q E → t_quotient K E { nx := fun _ H' => Q .non H', rt := Q } (start ["y", "a", "b", "with_signs", "high", "found"] vs) H) : CallG P w K mg base (L2.CX P w) 5 "quotient" ["y", "a", "b", "with_signs"] (sp_quotient K) := by
  obtain ⟨fd, F⟩ := T.d_quotient
  refine ⟨_, fd, F.ok sc_quotient len (fun cdv A outer s H vs Q E hr h => ⟨t_quotient K E, ?_, pure vs H Q E h⟩), T.g_quotient, F.kp, F.bindsN fun _ _ _ _ _ _ us hl => match us, hl with | [_, _, _, _], _ => rfl⟩
  exact (pss_cons (ps_if (pt_cmpR op_eq (pv 2) pe_int (nomark _)) (pss_one (ps_trap G_trap (hr.mono (by decide)) rfl (takes_of rfl rfl rfl rfl) (by exact (pa_cons (pgi T.i_BY_NOUGHT) pa_nil)))) pss_nil)
      (pss_cons (ps_set (i := 4) sc_quotient.nd rfl (Or.inl rfl) (pe_op op_add (pe_op op_mul (pgi T.i_WORD) (pv 0)) (pv 1)))
      (pss_cons (ps_if (pt_not (pt_val (pv 3))) (pss_cons (ps_set (i := 5) sc_quotient.nd rfl (Or.inl rfl) (pe_op op_fdivW (pv 4) (pv 2)))
      (pss_one (ps_ret (pc G_cut_off (hr.mono (by decide)) pass0 (by exact (pa_cons (pv 5) (pa_cons pe_int (pa_cons (pgi T.i_ALL_BITS) pa_nil)))))))) pss_nil)
      (pss_cons (ps_if (pt_cmpR op_ge (pv 4) (pe_op op_mul (pgi T.i_HALF) (pgi T.i_WORD)) (nomark _)) (pss_one (ps_set (i := 4) sc_quotient.nd rfl (Or.inl rfl) (pe_op op_sub (pv 4) (pe_op op_mul (pgi T.i_WORD) (pgi T.i_WORD))))) pss_nil)
      (pss_one (ps_ret (pc G_cut_off (hr.mono (by decide)) pass0 (by exact (pa_cons (pc G_toward_nought (hr.mono (by decide)) pass0 (by exact (pa_cons (pv 4) (pa_cons (pc G_signed (hr.mono (by decide)) pass0 (by exact (pa_cons (pv 2) pa_nil))) pa_nil)))) (pa_cons (pe_op op_sub pe_int (pgi T.i_HALF)) (pa_cons (pe_op op_sub (pgi T.i_HALF) pe_int) pa_nil)))))))))))
theorem sc_cut_off : FnScope ["found", "least", "most", "kept", "word"] ["found", "least", "most"] (defScope s_cut_off) := ⟨rfl, rfl, rfl, by decide +kernel, rfl, by decide +kernel, by decide +kernel⟩
def t_cut_off (K : PySem.W.Frag) (E : XK) : TS :=
  (tSeq (tAsg (tCB rMax (tCons (tVar 1) (tCons (tCB rMin (tCons (tVar 2) (tCons (tVar 0) tNil))) tNil))) (gName 3))
    (tSeq (tAsg (tOp rModI (tVar 3) (tC (.int 4294967296))) (gName 4))
    (tRet (tTup (tCons (tVar 4) (tCons (tCall (sp_conditions_by K) [] E0 (tCons (tVar 4) (tCons (tOp rNe (tVar 3) (tVar 0)) (tCons (tC (.bl false)) tNil)))) tNil))))))
theorem ok_cut_off (T : Txt K mg) (G_conditions_by : CallG P w K mg base CX0 3 "conditions_by" ["word", "v", "c"] (sp_conditions_by K)) (len : ∀ vs H Q E, sp_cut_off K vs H Q E → vs.length = 3)
    (pure : ∀ vs H Q E, sp_cut_off K vs H Q E → t_cut_off K E { nx := fun _ H' => Q .non H', rt := Q } (start ["found", "least", "most", "kept", "word"] vs) H) : CallG P w K mg base CX0 4 "cut_off" ["found", "least", "most"] (sp_cut_off K) := by
  obtain ⟨fd, F⟩ := T.d_cut_off
  refine ⟨_, fd, F.ok sc_cut_off len (fun cdv A outer s H vs Q E hr h => ⟨t_cut_off K E, ?_, pure vs H Q E h⟩), T.g_cut_off, F.kp, F.bindsN fun _ _ _ _ _ _ us hl => match us, hl with | [_, _, _], _ => rfl⟩
  exact PSs.nox (pss_cons (ps_set (i := 3) sc_cut_off.nd rfl (Or.inl rfl) (pe_callB (call_max2 rfl) (by rfl) T.f_max (by decide +kernel) (by exact (pa_cons (pv 1) (pa_cons (pe_callB (call_min2 rfl) (by rfl) T.f_min (by decide +kernel) (by exact (pa_cons (pv 2) (pa_cons (pv 0) pa_nil)))) pa_nil)))))
      (pss_cons (ps_set (i := 4) sc_cut_off.nd rfl (Or.inl rfl) (pe_op op_mod (pv 3) (pgi T.i_WORD)))
      (pss_one (ps_ret (pe_tup (pa_cons (pv 4) (pa_cons (pc G_conditions_by (hr.mono (by decide)) pass0 (by exact (pa_cons (pv 4) (pa_cons (pe_cmpR op_ne (pv 3) (pv 0) (nomark _)) (pa_cons pe_bl pa_nil))))) pa_nil)))))))
theorem sc_tagged : FnScope ["op", "a", "b", "word", "conditions", "bad"] ["op", "a", "b"] (defScope s_tagged) := ⟨rfl, rfl, rfl, by decide +kernel, rfl, by decide +kernel, by decide +kernel⟩
def t_tagged (K : PySem.W.Frag) (E : XK) : TS :=
  (tSeq (tIfS (tTest (tOp rEq (tOp rModI (tVar 0) (tC (.int 2))) (tC (.int 0)))) (tAsg (tCall (sp_total K) [] E0 (tCons (tVar 1) (tCons (tVar 2) (tCons (tC (.int 0)) tNil)))) (gTup K 2 (gCons (gName 3) (gCons (gName 4) gNil)))) (tAsg (tCall (sp_difference K) [] E0 (tCons (tVar 1) (tCons (tVar 2) (tCons (tC (.int 0)) tNil)))) (gTup K 2 (gCons (gName 3) (gCons (gName 4) gNil)))))
    (tSeq (tAsg (tOrV (tFld K (tVar 4) "v") (tOrV (tOp rNe (tOp rModI (tVar 1) (tC (.int 4))) (tC (.int 0))) (tOp rNe (tOp rModI (tVar 2) (tC (.int 4))) (tC (.int 0))))) (gName 5))
    (tSeq (tIfS (tAnd (tB (tVar 5)) (tTest (tOp rGeB (tVar 0) (tC (.int 34))))) (tTrap K (fun cls d _ H => E cls d H) (tCons (tC (.int 10)) tNil)) tNext)
    (tRet (tTup (tCons (tVar 3) (tCons (tCall (sp_conditions_by K) [] E0 (tCons (tVar 3) (tCons (tVar 5) (tCons (tFld K (tVar 4) "c") tNil)))) tNil)))))))
theorem ok_tagged (T : Txt K mg) (G_conditions_by : CallG P w K mg base CX0 3 "conditions_by" ["word", "v", "c"] (sp_conditions_by K)) (G_trap : TrapG P w K mg base) (G_total : CallG P w K mg base CX0 4 "total" ["a", "b", "more"] (sp_total K)) (G_difference : CallG P w K mg base CX0 4 "difference" ["a", "b", "more"] (sp_difference K)) (len : ∀ vs H Q E, sp_tagged K vs H Q E → vs.length = 3)
    (pure : ∀ vs H Q E, sp_tagged K vs H Q E → t_tagged K E { nx := fun _ H' => Q .non H', rt := Q } (start ["op", "a", "b", "word", "conditions", "bad"] vs) H) : CallG P w K mg base (L2.CX P w) 5 "tagged" ["op", "a", "b"] (sp_tagged K) := by
  obtain ⟨fd, F⟩ := T.d_tagged
  refine ⟨_, fd, F.ok sc_tagged len (fun cdv A outer s H vs Q E hr h => ⟨t_tagged K E, ?_, pure vs H Q E h⟩), T.g_tagged, F.kp, F.bindsN fun _ _ _ _ _ _ us hl => match us, hl with | [_, _, _], _ => rfl⟩
  exact (pss_cons (ps_if (pt_cmpR op_eq (pe_op op_mod (pv 0) pe_int) pe_int (nomark _)) (pss_one (ps_asg (pc G_total (hr.mono (by decide)) pass0 (by exact (pa_cons (pv 1) (pa_cons (pv 2) (pa_cons pe_int pa_nil))))) (pg_tup rfl (pgs_cons (pg_name (i := 3) sc_tagged.nd rfl (Or.inl rfl)) (pgs_cons (pg_name (i := 4) sc_tagged.nd rfl (Or.inl rfl)) pgs_nil))))) (pss_one (ps_asg (pc G_difference (hr.mono (by decide)) pass0 (by exact (pa_cons (pv 1) (pa_cons (pv 2) (pa_cons pe_int pa_nil))))) (pg_tup rfl (pgs_cons (pg_name (i := 3) sc_tagged.nd rfl (Or.inl rfl)) (pgs_cons (pg_name (i := 4) sc_tagged.nd rfl (Or.inl rfl)) pgs_nil))))))
      (pss_cons (ps_set (i := 5) sc_tagged.nd rfl (Or.inl rfl) (pe_or (pe_fld (pv 4) rfl) (pe_or (pe_cmpR op_ne (pe_op op_mod (pv 1) pe_int) pe_int (nomark _)) (pe_one (pe_cmpR op_ne (pe_op op_mod (pv 2) pe_int) pe_int (nomark _))))))
      (pss_cons (ps_if (PW.pt (pw_and (pt_val (pv 5)) (pw_and1 (pt_cmpR op_ge (pv 0) pe_int (nomark _))))) (pss_one (ps_trap G_trap (hr.mono (by decide)) rfl (takes_of rfl rfl rfl rfl) (by exact (pa_cons (pgi T.i_TAGGED) pa_nil)))) pss_nil)
      (pss_one (ps_ret (pe_tup (pa_cons (pv 3) (pa_cons (pc G_conditions_by (hr.mono (by decide)) pass0 (by exact (pa_cons (pv 3) (pa_cons (pv 5) (pa_cons (pe_fld (pv 4) rfl) pa_nil))))) pa_nil))))))))
theorem sc_product_step : FnScope ["a", "b", "y", "conditions", "u", "word", "found"] ["a", "b", "y", "conditions"] (defScope s_product_step) := ⟨rfl, rfl, rfl, by decide +kernel, rfl, by decide +kernel, by decide +kernel⟩
def t_product_step (K : PySem.W.Frag) (E : XK) : TS :=
  (tSeq (tAsg (tOp rAddI (tOp rFdiv (tVar 0) (tC (.int 2))) (tOp rMulI (tC (.int 2147483648)) (tCB rInt1 (tCons (tOp rNe (tFld K (tVar 3) "n") (tFld K (tVar 3) "v")) tNil)))) (gName 4))
    (tSeq (tAsg (tCall (sp_total K) [] E0 (tCons (tVar 4) (tCons (tOp rMulI (tVar 1) (tOp rModI (tVar 2) (tC (.int 2)))) (tCons (tC (.int 0)) tNil)))) (gTup K 2 (gCons (gName 5) (gCons (gName 6) gNil))))
    (tRet (tTup (tCons (tVar 5) (tCons (tVar 6) (tCons (tOp rAddI (tOp rFdiv (tVar 2) (tC (.int 2))) (tOp rMulI (tC (.int 2147483648)) (tOp rModI (tVar 0) (tC (.int 2))))) tNil)))))))
theorem ok_product_step (T : Txt K mg) (G_total : CallG P w K mg base CX0 4 "total" ["a", "b", "more"] (sp_total K)) (len : ∀ vs H Q E, sp_product_step K vs H Q E → vs.length = 4)
    (pure : ∀ vs H Q E, sp_product_step K vs H Q E → t_product_step K E { nx := fun _ H' => Q .non H', rt := Q } (start ["a", "b", "y", "conditions", "u", "word", "found"] vs) H) : CallG P w K mg base CX0 5 "product_step" ["a", "b", "y", "conditions"] (sp_product_step K) := by
  obtain ⟨fd, F⟩ := T.d_product_step
  refine ⟨_, fd, F.ok sc_product_step len (fun cdv A outer s H vs Q E hr h => ⟨t_product_step K E, ?_, pure vs H Q E h⟩), T.g_product_step, F.kp, F.bindsN fun _ _ _ _ _ _ us hl => match us, hl with | [_, _, _, _], _ => rfl⟩
  exact PSs.nox (pss_cons (ps_set (i := 4) sc_product_step.nd rfl (Or.inl rfl) (pe_op op_add (pe_op op_fdiv (pv 0) pe_int) (pe_op op_mul (pgi T.i_HALF) (pe_callTy call_int1 (by rfl) T.f_int (by decide +kernel) (by exact (pa_cons (pe_cmpR op_ne (pe_fld (pv 3) rfl) (pe_fld (pv 3) rfl) (nomark _)) pa_nil))))))
      (pss_cons (ps_asg (pc G_total (hr.mono (by decide)) pass0 (by exact (pa_cons (pv 4) (pa_cons (pe_op op_mul (pv 1) (pe_op op_mod (pv 2) pe_int)) (pa_cons pe_int pa_nil))))) (pg_tup rfl (pgs_cons (pg_name (i := 5) sc_product_step.nd rfl (Or.inl rfl)) (pgs_cons (pg_name (i := 6) sc_product_step.nd rfl (Or.inl rfl)) pgs_nil))))
      (pss_one (ps_ret (pe_tup (pa_cons (pv 5) (pa_cons (pv 6) (pa_cons (pe_op op_add (pe_op op_fdiv (pv 2) pe_int) (pe_op op_mul (pgi T.i_HALF) (pe_op op_mod (pv 0) pe_int))) pa_nil))))))))
theorem sc_shifted : FnScope ["op", "a", "b", "places"] ["op", "a", "b"] (defScope s_shifted) := ⟨rfl, rfl, rfl, by decide +kernel, rfl, by decide +kernel, by decide +kernel⟩
def t_shifted (K : PySem.W.Frag) (E : XK) : TS :=
  (tSeq (tAsg (tCall (sp_bits_of K) [] E0 (tCons (tVar 2) (tCons (tC (.int 0)) (tCons (tC (.int 5)) tNil)))) (gName 3))
    (tSeq (tIfS (tTest (tOp rEq (tVar 0) (tC (.int 37)))) (tRet (tOp rModI (tOp rShlI (tVar 1) (tVar 3)) (tC (.int 4294967296)))) tNext)
    (tSeq (tIfS (tTest (tOp rEq (tVar 0) (tC (.int 38)))) (tRet (tOp rShrI (tVar 1) (tVar 3))) tNext)
    (tRet (tOp rModI (tOp rShrI (tCall (sp_signed K) [] E0 (tCons (tVar 1) tNil)) (tVar 3)) (tC (.int 4294967296)))))))
theorem ok_shifted (T : Txt K mg) (G_signed : CallG P w K mg base CX0 2 "signed" ["word"] (sp_signed K)) (G_bits_of : CallG P w K mg base CX0 1 "bits_of" ["word", "last", "many"] (sp_bits_of K)) (len : ∀ vs H Q E, sp_shifted K vs H Q E → vs.length = 3)
    (pure : ∀ vs H Q E, sp_shifted K vs H Q E → t_shifted K E { nx := fun _ H' => Q .non H', rt := Q } (start ["op", "a", "b", "places"] vs) H) : CallG P w K mg base CX0 3 "shifted" ["op", "a", "b"] (sp_shifted K) := by
  obtain ⟨fd, F⟩ := T.d_shifted
  refine ⟨_, fd, F.ok sc_shifted len (fun cdv A outer s H vs Q E hr h => ⟨t_shifted K E, ?_, pure vs H Q E h⟩), T.g_shifted, F.kp, F.bindsN fun _ _ _ _ _ _ us hl => match us, hl with | [_, _, _], _ => rfl⟩
  exact PSs.nox (pss_cons (ps_set (i := 3) sc_shifted.nd rfl (Or.inl rfl) (pc G_bits_of (hr.mono (by decide)) pass0 (by exact (pa_cons (pv 2) (pa_cons pe_int (pa_cons pe_int pa_nil))))))
      (pss_cons (ps_if (pt_cmpR op_eq (pv 0) pe_int (nomark _)) (pss_one (ps_ret (pe_op op_mod (pe_op op_shl (pv 1) (pv 3)) (pgi T.i_WORD)))) pss_nil)
      (pss_cons (ps_if (pt_cmpR op_eq (pv 0) pe_int (nomark _)) (pss_one (ps_ret (pe_op op_shr (pv 1) (pv 3)))) pss_nil)
      (pss_one (ps_ret (pe_op op_mod (pe_op op_shr (pc G_signed (hr.mono (by decide)) pass0 (by exact (pa_cons (pv 1) pa_nil))) (pv 3)) (pgi T.i_WORD)))))))
theorem sc_simple : FnScope ["op", "a", "b", "carry"] ["op", "a", "b", "carry"] (defScope s_simple) := ⟨rfl, rfl, rfl, by decide +kernel, rfl, by decide +kernel, by decide +kernel⟩
def t_simple (K : PySem.W.Frag) (E : XK) : TS :=
  (tSeq (tIfS (tTest (tOp rEq (tVar 0) (tC (.int 0)))) (tRet (tCall (sp_total K) [] E0 (tCons (tVar 1) (tCons (tVar 2) (tCons (tC (.int 0)) tNil))))) tNext)
    (tSeq (tIfS (tTest (tOp rEq (tVar 0) (tC (.int 4)))) (tRet (tCall (sp_difference K) [] E0 (tCons (tVar 1) (tCons (tVar 2) (tCons (tC (.int 0)) tNil))))) tNext)
    (tSeq (tIfS (tTest (tOp rEq (tVar 0) (tC (.int 8)))) (tRet (tCall (sp_total K) [] E0 (tCons (tVar 1) (tCons (tVar 2) (tCons (tVar 3) tNil))))) tNext)
    (tSeq (tIfS (tTest (tOp rEq (tVar 0) (tC (.int 12)))) (tRet (tCall (sp_difference K) [] E0 (tCons (tVar 1) (tCons (tVar 2) (tCons (tVar 3) tNil))))) tNext)
    (tSeq (tIfS (tTest (tOp (rIn K false) (tVar 0) (tTup (tCons (tC (.int 9)) (tCons (tC (.int 13)) tNil))))) (tTrap K (fun cls d _ H => E cls d H) (tCons (tC (.int 2)) tNil)) tNext)
    (tRet (tCall (sp_by_bits K) [] E0 (tCons (tVar 0) (tCons (tVar 1) (tCons (tVar 2) tNil))))))))))
theorem ok_simple (T : Txt K mg) (G_by_bits : CallG P w K mg base CX0 5 "by_bits" ["op", "a", "b"] (sp_by_bits K)) (G_trap : TrapG P w K mg base) (G_difference : CallG P w K mg base CX0 4 "difference" ["a", "b", "more"] (sp_difference K)) (G_total : CallG P w K mg base CX0 4 "total" ["a", "b", "more"] (sp_total K)) (len : ∀ vs H Q E, sp_simple K vs H Q E → vs.length = 4)
    (pure : ∀ vs H Q E, sp_simple K vs H Q E → t_simple K E { nx := fun _ H' => Q .non H', rt := Q } (start ["op", "a", "b", "carry"] vs) H) : CallG P w K mg base (L2.CX P w) 6 "simple" ["op", "a", "b", "carry"] (sp_simple K) := by
  obtain ⟨fd, F⟩ := T.d_simple
  refine ⟨_, fd, F.ok sc_simple len (fun cdv A outer s H vs Q E hr h => ⟨t_simple K E, ?_, pure vs H Q E h⟩), T.g_simple, F.kp, F.bindsN fun _ _ _ _ _ _ us hl => match us, hl with | [_, _, _, _], _ => rfl⟩
  exact (pss_cons (ps_if (pt_cmpR op_eq (pv 0) pe_int (nomark _)) (pss_one (ps_ret (pc G_total (hr.mono (by decide)) pass0 (by exact (pa_cons (pv 1) (pa_cons (pv 2) (pa_cons pe_int pa_nil))))))) pss_nil)
      (pss_cons (ps_if (pt_cmpR op_eq (pv 0) pe_int (nomark _)) (pss_one (ps_ret (pc G_difference (hr.mono (by decide)) pass0 (by exact (pa_cons (pv 1) (pa_cons (pv 2) (pa_cons pe_int pa_nil))))))) pss_nil)
      (pss_cons (ps_if (pt_cmpR op_eq (pv 0) pe_int (nomark _)) (pss_one (ps_ret (pc G_total (hr.mono (by decide)) pass0 (by exact (pa_cons (pv 1) (pa_cons (pv 2) (pa_cons (pv 3) pa_nil))))))) pss_nil)
      (pss_cons (ps_if (pt_cmpR op_eq (pv 0) pe_int (nomark _)) (pss_one (ps_ret (pc G_difference (hr.mono (by decide)) pass0 (by exact (pa_cons (pv 1) (pa_cons (pv 2) (pa_cons (pv 3) pa_nil))))))) pss_nil)
      (pss_cons (ps_if (pt_cmpR op_in_seq (pv 0) (pe_tup (pa_cons pe_int (pa_cons pe_int pa_nil))) (by with_unfolding_all rfl)) (pss_one (ps_trap G_trap (hr.mono (by decide)) rfl (takes_of rfl rfl rfl rfl) (by exact (pa_cons (pgi T.i_NO_SUCH) pa_nil)))) pss_nil)
      (pss_one (ps_ret (pc G_by_bits (hr.mono (by decide)) pass0 (by exact (pa_cons (pv 0) (pa_cons (pv 1) (pa_cons (pv 2) pa_nil))))))))))))
end
end Wd
set_option Elab.async false
set_option linter.all false
set_option maxRecDepth 100000
set_option maxHeartbeats 4000000
namespace Wd
open PySem PySem.Spec PyProof.Rows L2
/-! ### tests and ends -/
theorem iteEq {x y : Int} {A B : Prop} (h1 : x = y → A) (h2 : ¬ x = y → B) : if decide (V.int x = V.int y) = true then A else B :=
  ite2 (fun c => h1 (V.int.inj (of_decide_eq_true c))) fun c => h2 fun z => c (decide_eq_true (congrArg V.int z))
theorem iteNeq {x y : Int} {A B : Prop} (h1 : ¬ x = y → A) (h2 : x = y → B) : if (!decide (V.int x = V.int y)) = true then A else B := by
  by_cases z : x = y
  · rw [decide_eq_true (congrArg V.int z)]
    exact iteF (h2 z)
  · rw [decide_eq_false fun q => z (V.int.inj q)]
    exact iteT (h1 z)
theorem iteD {p : Prop} [Decidable p] {A B : Prop} (h1 : p → A) (h2 : ¬ p → B) : if decide p = true then A else B :=
  ite2 (fun c => h1 (of_decide_eq_true c)) fun c => h2 fun z => c (decide_eq_true z)
theorem iteB {b : Bool} {A B : Prop} (h1 : b = true → A) (h2 : b = false → B) : if b = true then A else B :=
  ite2 h1 fun c => h2 (by simpa using c)
theorem qint {Q : VK} {H : Hp} {a b : Int} (h : Q (.int b) H) (e : a = b) : Q (.int a) H := e ▸ h
theorem qbl {Q : VK} {H : Hp} {a b : Bool} (h : Q (.bl b) H) (e : a = b) : Q (.bl a) H := e ▸ h
theorem dec_int (x y : Int) : decide (V.int x = V.int y) = decide (x = y) := by
  by_cases h : x = y
  · rw [decide_eq_true h, decide_eq_true (congrArg V.int h)]
  · rw [decide_eq_false h, decide_eq_false fun z => h (V.int.inj z)]
theorem dec_bl (x y : Bool) : (!decide (V.bl x = V.bl y)) = (x != y) := by
  cases x <;> cases y <;> decide
theorem Wv : Ra24.W = 4294967296 := by decide
section
variable {K : PySem.W.Frag} {mg : Str → Option Value}
/-! ### words -/
theorem shr_nat (p n : Nat) : (p : Int) / 2 ^ n = ((p / 2 ^ n : Nat) : Int) := by simp
theorem pure_part_signed : ∀ vs H Q E, sp_part_signed K vs H Q E → t_part_signed K E { nx := fun _ H' => Q .non H', rt := Q } (start ["part", "bits"] vs) H := by
  rintro vs H Q E ⟨p, b, rfl, ⟨hb1, hb2⟩, hQ⟩
  have e1 : ((b : Int) - 1).toNat = b - 1 := by omega
  refine ⟨_, rfl, _, rfl, _, _, rfl, rfl, _, _, rfl, rfl, (by show (0 : Int) ≤ (b : Int) - 1; omega), rfl, _, rfl, iteEq (fun c => ?_) fun c => ?_⟩
  · rw [e1, shr_nat] at c
    have c' : p / 2 ^ (b - 1) = 1 := by omega
    refine ⟨_, rfl, _, rfl, _, _, rfl, rfl, ⟨Int.natCast_nonneg _, by omega, by decide⟩, _, _, rfl, rfl, qint hQ ?_⟩
    show (p : Int) - 1 * 2 ^ (b : Int).toNat = psg p b
    unfold psg
    rw [if_pos c']
    simp
  · rw [e1, shr_nat] at c
    have c' : ¬ p / 2 ^ (b - 1) = 1 := by omega
    refine ⟨_, rfl, qint hQ ?_⟩
    unfold psg
    rw [if_neg c']
theorem psg_signed {n : Nat} (h : n < Ra24.W) : psg n 32 = Ra24.signed n := by
  rw [Wv] at h
  unfold psg Ra24.signed
  have e : (2 : Nat) ^ 31 = 2147483648 := by decide
  show (if n / 2 ^ 31 = 1 then _ else _) = _
  rw [e]
  by_cases c : n < 2147483648
  · rw [if_neg (by omega), if_pos c]
  · rw [if_pos (by omega), if_neg c]
    rfl
theorem pure_signed : ∀ vs H Q E, sp_signed K vs H Q E → t_signed K E { nx := fun _ H' => Q .non H', rt := Q } (start ["word"] vs) H := by
  rintro vs H Q E ⟨n, rfl, hn, hQ⟩
  exact ⟨_, rfl, n, 32, rfl, ⟨by decide, by decide⟩, qint hQ (psg_signed hn)⟩
theorem pure_bits_of : ∀ vs H Q E, sp_bits_of K vs H Q E → t_bits_of K E { nx := fun _ H' => Q .non H', rt := Q } (start ["word", "last", "many"] vs) H := by
  rintro vs H Q E ⟨w, l, n, rfl, hn, hQ⟩
  refine ⟨_, rfl, _, rfl, _, _, rfl, rfl, Int.natCast_nonneg _, _, rfl, _, _, rfl, rfl, ⟨Int.natCast_nonneg _, by omega, by decide⟩, _, _, rfl, rfl, ?_, qint hQ ?_⟩
  · simp only [Int.toNat_natCast, Int.one_mul]
    exact Int.pow_pos (by decide)
  · simp
theorem pure_is_fit : ∀ vs H Q E, sp_is_fit K vs H Q E → t_is_fit K E { nx := fun _ H' => Q .non H', rt := Q } (start ["number"] vs) H := by
  rintro vs H Q E ⟨z, rfl, hQ⟩
  have e : (2 : Int) ^ 31 = 2147483648 := by decide
  refine ⟨_, _, rfl, rfl, _, rfl, _, _, rfl, rfl, _, rfl, iteD (fun c => ?_) fun c => ?_⟩
  · refine ⟨_, _, rfl, rfl, qbl hQ ?_⟩
    unfold Ra24.fitsS
    rw [e]
    have c' : -2147483648 ≤ z := by omega
    rw [decide_eq_true c'] <;> rfl
  · refine qbl hQ ?_
    unfold Ra24.fitsS
    rw [e]
    have c' : ¬ -2147483648 ≤ z := by omega
    rw [decide_eq_false c'] <;> rfl
end
end Wd
set_option Elab.async false
set_option linter.all false
set_option maxRecDepth 100000
set_option maxHeartbeats 4000000
namespace Wd
open PySem PySem.Spec PyProof.Rows L2
theorem lk_here {k : Str} {v : V} {r : List (Str × V)} : List.lookup k ((k, v) :: r) = some v := by
  have e : (k == k) = true := beq_self_eq_true k
  simp only [List.lookup, e]
theorem lk_past {k g : Str} {v : V} {r : List (Str × V)} (h : (k == g) = false) : List.lookup k ((g, v) :: r) = List.lookup k r := by
  simp only [List.lookup, h]
theorem put_here {f : Str} {v x : V} {r : List (Str × V)} : putF f v ((f, x) :: r) = (f, v) :: r := if_pos rfl
theorem put_past {f g : Str} {v x : V} {r : List (Str × V)} (h : ¬ g = f) : putF f v ((g, x) :: r) = (g, x) :: putF f v r := if_neg h
theorem put_nil {f : Str} {v : V} : putF f v [] = [(f, v)] := rfl
theorem Same.new {H : Hp} {p : Addr} {o : HO} (h : H p = none) : Same H (upd H p o) := fun b u e => by
  rw [upd_ne (ne_of_none e h)]
  exact e
theorem IccAt.mono {K : PySem.W.Frag} {H H' : Hp} {p : Addr} {i : Ra24.Icc} (e : Same H H') (h : IccAt K H p i) : IccAt K H' p i := by
  obtain ⟨dx, h⟩ := h
  exact ⟨dx, e _ _ h⟩
section
variable {K : PySem.W.Frag} {mg : Str → Option Value}
theorem ic_n (i : Ra24.Icc) : (icF i).lookup ("n" : Str) = some (.bl i.n) := lk_here
theorem ic_z (i : Ra24.Icc) : (icF i).lookup ("z" : Str) = some (.bl i.z) := (lk_past (by decide +kernel)).trans lk_here
theorem ic_v (i : Ra24.Icc) : (icF i).lookup ("v" : Str) = some (.bl i.v) := (lk_past (by decide +kernel)).trans ((lk_past (by decide +kernel)).trans lk_here)
theorem ic_c (i : Ra24.Icc) : (icF i).lookup ("c" : Str) = some (.bl i.c) := (lk_past (by decide +kernel)).trans ((lk_past (by decide +kernel)).trans ((lk_past (by decide +kernel)).trans lk_here))
theorem ic_none (i : Ra24.Icc) {f : Str} (h : (["n", "z", "v", "c"] : List Str).contains f = false) : (icF i).lookup f = none := by
  simp only [List.contains_cons, List.contains_nil, Bool.or_false, Bool.or_eq_false_iff] at h
  obtain ⟨h1, h2, h3, h4⟩ := h
  exact (lk_past h1).trans ((lk_past h2).trans ((lk_past h3).trans ((lk_past h4).trans rfl)))
theorem ic_put (i : Ra24.Icc) : putF "c" (.bl i.c) (putF "v" (.bl i.v) (putF "z" (.bl i.z) (putF "n" (.bl i.n) []))) = icF i := by
  rw [put_nil, put_past (by decide +kernel), put_nil, put_past (by decide +kernel), put_past (by decide +kernel), put_past (by decide +kernel), put_nil, put_past (by decide +kernel), put_past (by decide +kernel), put_nil]
  rfl
theorem pure_Conditions_init (T : Txt K mg) : ∀ vs H Q E, sp_Conditions_init K vs H Q E → t_Conditions_init K E { nx := fun _ H' => Q .non H', rt := Q } (start ["self", "n", "z", "v", "c"] vs) H := by
  rintro vs H Q E ⟨p, dx, i, rfl, hp, q⟩
  refine ⟨_, rfl, _, rfl, p, _, dx, _, rfl, hp, T.cl_Conditions, T.n_Conditions_n, (by show 0 < 1000; decide), ?_⟩
  refine ⟨_, rfl, _, rfl, p, _, dx, _, rfl, upd_same, T.cl_Conditions, T.n_Conditions_z, (by show 1 < 1000; decide), ?_⟩
  refine ⟨_, rfl, _, rfl, p, _, dx, _, rfl, upd_same, T.cl_Conditions, T.n_Conditions_v, (by show 2 < 1000; decide), ?_⟩
  refine ⟨_, rfl, _, rfl, p, _, dx, _, rfl, upd_same, T.cl_Conditions, T.n_Conditions_c, (by show 3 < 1000; decide), ?_⟩
  refine q _ ⟨dx, Eq.trans upd_same (congrArg (fun z => some (HO.ins (He.ga K "Conditions") dx z)) (ic_put i))⟩ fun b hb => ?_
  rw [upd_ne hb, upd_ne hb, upd_ne hb, upd_ne hb]
theorem pure_Conditions_bits (T : Txt K mg) : ∀ vs H Q E, sp_Conditions_bits K vs H Q E → t_Conditions_bits K E { nx := fun _ H' => Q .non H', rt := Q } (start ["self"] vs) H := by
  rintro vs H Q E ⟨p, i, rfl, ⟨dx, hp⟩, hQ⟩
  have bnd : ∀ b : Bool, (-(2 ^ 64) < (if b = true then (1 : Int) else 0) ∧ (if b = true then (1 : Int) else 0) < 2 ^ 64) := fun b => by cases b <;> decide
  have e : ∀ b : Bool, (if b = true then (1 : Int) else 0) = (Ra24.bit b : Int) := fun b => by cases b <;> rfl
  refine ⟨_, rfl, p, _, dx, _, _, rfl, hp, T.cl_Conditions, T.n_Conditions_n, ic_n i, Or.inr ⟨_, rfl, ?_⟩⟩
  refine ⟨_, _, rfl, rfl, Or.inl (by decide), ?_⟩
  refine ⟨_, rfl, p, _, dx, _, _, rfl, hp, T.cl_Conditions, T.n_Conditions_z, ic_z i, Or.inr ⟨_, rfl, ?_⟩⟩
  refine ⟨_, _, rfl, rfl, Or.inl (by decide), _, _, rfl, rfl, ?_⟩
  refine ⟨_, rfl, p, _, dx, _, _, rfl, hp, T.cl_Conditions, T.n_Conditions_v, ic_v i, Or.inr ⟨_, rfl, ?_⟩⟩
  refine ⟨_, _, rfl, rfl, Or.inl (by decide), _, _, rfl, rfl, ?_⟩
  refine ⟨_, rfl, p, _, dx, _, _, rfl, hp, T.cl_Conditions, T.n_Conditions_c, ic_c i, Or.inr ⟨_, rfl, ?_⟩⟩
  refine ⟨_, _, rfl, rfl, qint hQ ?_⟩
  unfold Ra24.iccByte
  simp only [e]
  omega
/-- a new instance of Conditions -/
theorem mk_cond {H : Hp} {Q : VK} {i : Ra24.Icc} (h : ∀ H' p, Same H H' → IccAt K H' p i → Q (.ref p) H') :
    ∀ x dx, H x = none → H dx = none → dx ≠ x → sp_Conditions_init K (.ref x :: ([.bl i.n, .bl i.z, .bl i.v, .bl i.c] ++ [])) (upd (upd H dx (.own x)) x (.ins (He.ga K "Conditions") dx [])) (fun v H2 => v = .non ∧ Q (.ref x) H2) E0 := by
  intro x dx nx nd ne
  refine ⟨x, dx, i, rfl, upd_same, fun H' ha k => ⟨rfl, h H' x (fun b o e => ?_) ha⟩⟩
  rw [k b (ne_of_none e nx), upd_ne (ne_of_none e nx), upd_ne (ne_of_none e nd)]
  exact e
theorem pure_conditions_by : ∀ vs H Q E, sp_conditions_by K vs H Q E → t_conditions_by K E { nx := fun _ H' => Q .non H', rt := Q } (start ["word", "v", "c"] vs) H := by
  rintro vs H Q E ⟨n, v, c, rfl, hQ⟩
  refine ⟨_, rfl, _, _, rfl, rfl, _, rfl, rfl, _, rfl, _, rfl, ?_⟩
  have e1 : decide ((2147483648 : Int) ≤ (n : Int)) = decide (2 ^ 31 ≤ n) := decide_eq_decide.mpr (by show _ ↔ 2147483648 ≤ n; omega)
  have e2 : decide (V.int (n : Int) = V.int 0) = (n == 0) := by
    rw [dec_int]
    by_cases z : n = 0
    · subst z
      rfl
    · rw [decide_eq_false (by omega)]
      exact (beq_eq_false_iff_ne.mpr z).symm
  have q := mk_cond (K := K) (H := H) (Q := Q) (i := Ra24.nz n v c) fun H' p s a => hQ H' p s a
  intro x dx nx nd ne
  have z := q x dx nx nd ne
  rw [show (Ra24.nz n v c).n = decide ((2147483648 : Int) ≤ (n : Int)) from e1.symm, show (Ra24.nz n v c).z = decide (V.int (n : Int) = V.int 0) from e2.symm] at z
  exact z
end
end Wd
set_option Elab.async false
set_option linter.all false
set_option maxRecDepth 100000
set_option maxHeartbeats 4000000
namespace Wd
open PySem PySem.Spec PyProof.Rows L2
section
variable {K : PySem.W.Frag} {mg : Str → Option Value}
def waysL (i : Ra24.Icc) : List V := [.bl false, .bl i.z, .bl (i.z || (i.n != i.v)), .bl (i.n != i.v), .bl (i.c || i.z), .bl i.c, .bl i.n, .bl i.v]
theorem ways_at (i : Ra24.Icc) : ∀ k, k < 8 → (waysL i)[k]? = some (.bl (Ra24.holds i k))
  | 0, _ => rfl
  | 1, _ => rfl
  | 2, _ => rfl
  | 3, _ => rfl
  | 4, _ => rfl
  | 5, _ => rfl
  | 6, _ => rfl
  | 7, _ => rfl
  | n + 8, h => absurd h (by omega)
theorem pure_Conditions_first (T : Txt K mg) : ∀ vs H Q E, sp_Conditions_first K vs H Q E → t_Conditions_first K E { nx := fun _ H' => Q .non H', rt := Q } (start ["self", "number", "unlike", "ways"] vs) H := by
  rintro vs H Q E ⟨p, i, k, rfl, ⟨dx, hp⟩, hk, hQ⟩
  have hw := ways_at i k hk
  obtain ⟨n, z, v, c⟩ := i
  refine ⟨_, rfl, p, _, dx, _, _, rfl, hp, T.cl_Conditions, T.n_Conditions_n, ic_n _, _, rfl, p, _, dx, _, _, rfl, hp, T.cl_Conditions, T.n_Conditions_v, ic_v _, rfl, ?_⟩
  rw [dec_bl]
  have fin : ∀ (b d : Bool), b = (z || (n != v)) → d = (c || z) → ∀ l, H l = none → rIxL K (.ref l) (.int k) (upd H l (.lst [.bl false, .bl z, .bl b, .bl (n != v), .bl d, .bl c, .bl n, .bl v])) Q := by
    rintro b d rfl rfl l hl
    exact ⟨l, _, _, _, rfl, rfl, SqL.of upd_same, atI_nat hw, hQ _ (Same.new hl)⟩
  cases z
  · cases c
    · exact ⟨_, rfl, p, _, dx, _, _, rfl, hp, T.cl_Conditions, T.n_Conditions_z, ic_z _, _, rfl, p, _, dx, _, _, rfl, hp, T.cl_Conditions, T.n_Conditions_z, ic_z _, _, rfl, iteF ⟨_, rfl, _, rfl, _, rfl, p, _, dx, _, _, rfl, hp, T.cl_Conditions, T.n_Conditions_c, ic_c _, _, rfl, iteF ⟨_, rfl, p, _, dx, _, _, rfl, hp, T.cl_Conditions, T.n_Conditions_z, ic_z _, _, rfl, p, _, dx, _, _, rfl, hp, T.cl_Conditions, T.n_Conditions_c, ic_c _, _, rfl, p, _, dx, _, _, rfl, hp, T.cl_Conditions, T.n_Conditions_n, ic_n _, _, rfl, p, _, dx, _, _, rfl, hp, T.cl_Conditions, T.n_Conditions_v, ic_v _, (by show 8 ≤ sizeLine; decide), fun l hl => ⟨_, rfl, _, rfl, fin _ _ rfl rfl l hl⟩⟩⟩⟩
    · exact ⟨_, rfl, p, _, dx, _, _, rfl, hp, T.cl_Conditions, T.n_Conditions_z, ic_z _, _, rfl, p, _, dx, _, _, rfl, hp, T.cl_Conditions, T.n_Conditions_z, ic_z _, _, rfl, iteF ⟨_, rfl, _, rfl, _, rfl, p, _, dx, _, _, rfl, hp, T.cl_Conditions, T.n_Conditions_c, ic_c _, _, rfl, iteT ⟨_, rfl, p, _, dx, _, _, rfl, hp, T.cl_Conditions, T.n_Conditions_c, ic_c _, _, rfl, p, _, dx, _, _, rfl, hp, T.cl_Conditions, T.n_Conditions_n, ic_n _, _, rfl, p, _, dx, _, _, rfl, hp, T.cl_Conditions, T.n_Conditions_v, ic_v _, (by show 8 ≤ sizeLine; decide), fun l hl => ⟨_, rfl, _, rfl, fin _ _ rfl rfl l hl⟩⟩⟩⟩
  · cases c
    · exact ⟨_, rfl, p, _, dx, _, _, rfl, hp, T.cl_Conditions, T.n_Conditions_z, ic_z _, _, rfl, p, _, dx, _, _, rfl, hp, T.cl_Conditions, T.n_Conditions_z, ic_z _, _, rfl, iteT ⟨_, rfl, _, rfl, p, _, dx, _, _, rfl, hp, T.cl_Conditions, T.n_Conditions_c, ic_c _, _, rfl, iteF ⟨_, rfl, p, _, dx, _, _, rfl, hp, T.cl_Conditions, T.n_Conditions_z, ic_z _, _, rfl, p, _, dx, _, _, rfl, hp, T.cl_Conditions, T.n_Conditions_c, ic_c _, _, rfl, p, _, dx, _, _, rfl, hp, T.cl_Conditions, T.n_Conditions_n, ic_n _, _, rfl, p, _, dx, _, _, rfl, hp, T.cl_Conditions, T.n_Conditions_v, ic_v _, (by show 8 ≤ sizeLine; decide), fun l hl => ⟨_, rfl, _, rfl, fin _ _ rfl rfl l hl⟩⟩⟩⟩
    · exact ⟨_, rfl, p, _, dx, _, _, rfl, hp, T.cl_Conditions, T.n_Conditions_z, ic_z _, _, rfl, p, _, dx, _, _, rfl, hp, T.cl_Conditions, T.n_Conditions_z, ic_z _, _, rfl, iteT ⟨_, rfl, _, rfl, p, _, dx, _, _, rfl, hp, T.cl_Conditions, T.n_Conditions_c, ic_c _, _, rfl, iteT ⟨_, rfl, p, _, dx, _, _, rfl, hp, T.cl_Conditions, T.n_Conditions_c, ic_c _, _, rfl, p, _, dx, _, _, rfl, hp, T.cl_Conditions, T.n_Conditions_n, ic_n _, _, rfl, p, _, dx, _, _, rfl, hp, T.cl_Conditions, T.n_Conditions_v, ic_v _, (by show 8 ≤ sizeLine; decide), fun l hl => ⟨_, rfl, _, rfl, fin _ _ rfl rfl l hl⟩⟩⟩⟩
theorem holds_mod (i : Ra24.Icc) {k : Nat} (h : k < 16) : (Ra24.holds i (k % 8) != decide (8 ≤ k)) = Ra24.holds i k := by
  unfold Ra24.holds
  have e : k % 8 % 8 = k % 8 := by omega
  have e2 : ¬ 8 ≤ k % 8 := by omega
  simp only [e, if_neg e2]
  by_cases c : 8 ≤ k
  · rw [if_pos c, decide_eq_true c]
    simp
  · rw [if_neg c, decide_eq_false c]
    simp
theorem pure_Conditions_holds : ∀ vs H Q E, sp_Conditions_holds K vs H Q E → t_Conditions_holds K E { nx := fun _ H' => Q .non H', rt := Q } (start ["self", "number"] vs) H := by
  rintro vs H Q E ⟨p, i, k, rfl, ⟨dx, hp⟩, hk, hQ⟩
  refine ⟨_, rfl, p, dx, _, rfl, hp, ic_none i (by decide +kernel), _, rfl, _, _, rfl, rfl, (show (0 : Int) < 8 by decide), ?_⟩
  refine ⟨p, i, k % 8, rfl, ⟨dx, hp⟩, Nat.mod_lt _ (by decide), fun H' s => ?_⟩
  refine ⟨_, rfl, _, _, rfl, rfl, rfl, ?_⟩
  rw [dec_bl]
  refine qbl (hQ H' s) ?_
  rw [← holds_mod i hk]
  have e : decide ((8 : Int) ≤ (k : Int)) = decide (8 ≤ k) := decide_eq_decide.mpr (by omega)
  rw [e]
theorem bit_is (n k : Nat) : decide (V.int ((n / 2 ^ k % 2 ^ 1 : Nat) : Int) = V.int 1) = n.testBit k := by
  rw [dec_int, Nat.testBit_eq_decide_div_mod_eq]
  exact decide_eq_decide.mpr (by show _ ↔ n / 2 ^ k % 2 = 1; omega)
theorem pure_conditions_of : ∀ vs H Q E, sp_conditions_of K vs H Q E → t_conditions_of K E { nx := fun _ H' => Q .non H', rt := Q } (start ["bits"] vs) H := by
  rintro vs H Q E ⟨n, rfl, hQ⟩
  refine ⟨_, rfl, n, 3, 1, rfl, (by decide), rfl, _, rfl, n, 2, 1, rfl, (by decide), rfl, _, rfl, n, 1, 1, rfl, (by decide), rfl, _, rfl, _, _, rfl, rfl, (show (0 : Int) < 2 by decide), rfl, ?_⟩
  have q := mk_cond (K := K) (H := H) (Q := Q) (i := ⟨n.testBit 3, n.testBit 2, n.testBit 1, n.testBit 0⟩) fun H' p s a => hQ H' p s a
  have e0 : decide (V.int ((n : Int) % 2) = V.int 1) = n.testBit 0 := by
    rw [dec_int, Nat.testBit_eq_decide_div_mod_eq]
    exact decide_eq_decide.mpr (by show _ ↔ n / 1 % 2 = 1; omega)
  intro x dx nx nd ne
  have z := q x dx nx nd ne
  simp only [← bit_is n 3, ← bit_is n 2, ← bit_is n 1, ← e0] at z
  exact z
end
end Wd
set_option Elab.async false
set_option linter.all false
set_option maxRecDepth 100000
set_option maxHeartbeats 4000000
namespace Wd
open PySem PySem.Spec PyProof.Rows L2
/-! ### mathematics of reckoning -/
theorem vi {x y : Int} {r s : List V} (h : x = y) (e : r = s) : V.int x :: r = V.int y :: s := by rw [h, e]
theorem vc {v : V} {r s : List V} (e : r = s) : v :: r = v :: s := by rw [e]
theorem posW : (0 : Int) < 4294967296 := by decide
theorem divW (i : Int) : CDivW i 4294967296 := wide_div (b := 33) (by decide) (by decide) (by decide) (by decide)
theorem signed_lo {n : Nat} (h : n < Ra24.W) : -2147483648 ≤ Ra24.signed n ∧ Ra24.signed n < 2147483648 := by
  rw [Wv] at h
  unfold Ra24.signed
  have e : (2 : Nat) ^ 31 = 2147483648 := by decide
  have e2 : (2 : Int) ^ 32 = 4294967296 := by decide
  rw [e, e2]
  split <;> omega
theorem wrap_cast (z : Int) : ((Ra24.wrap z : Nat) : Int) = z % 4294967296 := by
  unfold Ra24.wrap
  have e : (2 : Int) ^ 32 = 4294967296 := by decide
  rw [e]
  omega
theorem wrap_lt (z : Int) : Ra24.wrap z < Ra24.W := by
  have h := wrap_cast z
  rw [Wv]
  omega
theorem prod_lo {s : Bool} {a b : Nat} (ha : a < Ra24.W) (hb : b < Ra24.W) (f : Int) (hf : f = if s = true then Ra24.signed a * Ra24.signed b else (a : Int) * (b : Int)) :
    f % 4294967296 = ((prodOf s a b % Ra24.W : Nat) : Int) ∧ f / 4294967296 % 4294967296 = ((prodOf s a b / Ra24.W : Nat) : Int) := by
  cases s with
  | true =>
    rw [if_pos rfl] at hf
    have e : prodOf true a b = (f % 18446744073709551616).toNat := by
      unfold prodOf
      rw [if_pos rfl, hf] <;> rfl
    rw [e, Wv]
    omega
  | false =>
    rw [if_neg Bool.false_ne_true] at hf
    have e : prodOf false a b = a * b := by
      unfold prodOf
      rw [if_neg Bool.false_ne_true]
    rw [e]
    have hp : a * b < 4294967296 * 4294967296 := by
      rw [Wv] at ha hb
      exact Nat.mul_lt_mul'' ha hb
    have hf2 : f = ((a * b : Nat) : Int) := by rw [hf]; exact (Int.natCast_mul a b).symm
    generalize a * b = n at hp hf2
    rw [Wv, hf2]
    omega
theorem tdiv_of (x y : Int) : (if (decide (x < 0) != decide (y < 0)) = true then 0 - (x.natAbs : Int) / (y.natAbs : Int) else (x.natAbs : Int) / (y.natAbs : Int)) = Int.tdiv x y := by
  have d : ∀ n m : Nat, Int.tdiv (n : Int) (m : Int) = (n : Int) / (m : Int) := fun n m => by simp
  rcases Int.le_total 0 x with hx | hx
  · obtain ⟨n, rfl⟩ := Int.eq_ofNat_of_zero_le hx
    rcases Int.le_total 0 y with hy | hy
    · obtain ⟨m, rfl⟩ := Int.eq_ofNat_of_zero_le hy
      rw [decide_eq_false (by omega), decide_eq_false (by omega), d]
      rfl
    · obtain ⟨m, hm⟩ := Int.eq_ofNat_of_zero_le (show 0 ≤ -y by omega)
      obtain rfl : y = -(m : Int) := by omega
      rw [Int.tdiv_neg, d, decide_eq_false (show ¬ (n : Int) < 0 by omega), Int.natAbs_neg]
      by_cases z : m = 0
      · subst z
        simp
      · rw [decide_eq_true (by omega)]
        show 0 - (n : Int) / (m : Int) = _
        omega
  · obtain ⟨n, hn⟩ := Int.eq_ofNat_of_zero_le (show 0 ≤ -x by omega)
    obtain rfl : x = -(n : Int) := by omega
    rw [Int.natAbs_neg]
    rcases Int.le_total 0 y with hy | hy
    · obtain ⟨m, rfl⟩ := Int.eq_ofNat_of_zero_le hy
      rw [Int.neg_tdiv, d, decide_eq_false (show ¬ (m : Int) < 0 by omega)]
      by_cases z : n = 0
      · subst z
        simp
      · rw [decide_eq_true (by omega)]
        show 0 - (n : Int) / (m : Int) = _
        omega
    · obtain ⟨m, hm⟩ := Int.eq_ofNat_of_zero_le (show 0 ≤ -y by omega)
      obtain rfl : y = -(m : Int) := by omega
      rw [Int.neg_tdiv_neg, d, Int.natAbs_neg]
      by_cases z : n = 0
      · subst z
        simp
      · by_cases z2 : m = 0
        · subst z2
          simp
        · rw [decide_eq_true (show -(n : Int) < 0 by omega), decide_eq_true (show -(m : Int) < 0 by omega)]
          rfl
theorem abs_is (i : Int) : (if i < 0 then -i else i) = (i.natAbs : Int) := by split <;> omega
/-- an unsigned quotient, cut off -/
theorem cut_u {f : Int} {n : Nat} (h : f = (n : Int)) : (Ra24.wrap (keptIn f 0 4294967295), !decide (keptIn f 0 4294967295 = f)) = if Ra24.W ≤ n then (Ra24.W - 1, true) else (n, false) := by
  have hk := wrap_cast (keptIn f 0 4294967295)
  have e : keptIn f 0 4294967295 = if Ra24.W ≤ n then 4294967295 else (n : Int) := by
    unfold keptIn
    rw [Wv]
    subst h
    split <;> split <;> split <;> omega
  by_cases c : Ra24.W ≤ n
  · rw [if_pos c] at e ⊢
    rw [e] at hk
    have c' := c
    rw [Wv] at c'
    rw [e, decide_eq_false (by omega)]
    refine Prod.ext ?_ rfl
    show Ra24.wrap 4294967295 = Ra24.W - 1
    rw [Wv]
    omega
  · rw [if_neg c] at e ⊢
    rw [e] at hk
    have c' := c
    rw [Wv] at c'
    rw [e, decide_eq_true h.symm]
    refine Prod.ext ?_ rfl
    show Ra24.wrap (n : Int) = n
    omega
theorem cut_s (q : Int) : (Ra24.wrap (keptIn q (-2147483648) 2147483647), !decide (keptIn q (-2147483648) 2147483647 = q)) = if q < -(2 ^ 31) then (2 ^ 31, true) else if 2 ^ 31 ≤ q then (2 ^ 31 - 1, true) else (Ra24.wrap q, false) := by
  have e1 : (2 : Int) ^ 31 = 2147483648 := by decide
  have e2 : (2 : Nat) ^ 31 = 2147483648 := by decide
  rw [e1, e2]
  have e : keptIn q (-2147483648) 2147483647 = if q < -2147483648 then -2147483648 else if 2147483648 ≤ q then 2147483647 else q := by
    unfold keptIn
    split <;> split <;> split <;> (try split) <;> omega
  have hk := wrap_cast (keptIn q (-2147483648) 2147483647)
  by_cases c : q < -2147483648
  · rw [if_pos c] at e ⊢
    rw [e] at hk
    rw [e, decide_eq_false (by omega)]
    refine Prod.ext ?_ rfl
    show Ra24.wrap (-2147483648) = 2147483648
    omega
  · rw [if_neg c] at e ⊢
    by_cases c2 : 2147483648 ≤ q
    · rw [if_pos c2] at e ⊢
      rw [e] at hk
      rw [e, decide_eq_false (by omega)]
      refine Prod.ext ?_ rfl
      show Ra24.wrap 2147483647 = 2147483648 - 1
      omega
    · rw [if_neg c2] at e ⊢
      rw [e, decide_eq_true rfl]
      rfl
section
variable {K : PySem.W.Frag} {mg : Str → Option Value}
/-- the pair is made last -/
theorem pair_end {H H1 : Hp} {Q : VK} {r : Nat × Ra24.Icc} {z : Int} {i : Ra24.Icc} {p : Addr} (hQ : PairOut K H Q r) (s : Same H H1) (ic : IccAt K H1 p i) (e1 : z = (r.1 : Int)) (e2 : i = r.2) :
    ([.int z, .ref p] : List V).length ≤ sizeLine ∧ ∀ t, H1 t = none → Q (.ref t) (upd H1 t (.tup [.int z, .ref p])) := by
  subst e1 e2
  exact ⟨by show 2 ≤ sizeLine; decide, fun t ht => hQ _ t p (s.trans (Same.new ht)) upd_same (ic.mono (Same.new ht))⟩
theorem pure_total : ∀ vs H Q E, sp_total K vs H Q E → t_total K E { nx := fun _ H' => Q .non H', rt := Q } (start ["a", "b", "more", "word", "fits"] vs) H := by
  rintro vs H Q E ⟨a, b, c, rfl, ⟨ha, hb, hc⟩, hQ⟩
  refine ⟨_, rfl, _, rfl, _, _, rfl, rfl, _, rfl, _, _, rfl, rfl, _, _, rfl, rfl, posW, ?_⟩
  refine ⟨_, rfl, a, rfl, ha, _, rfl, b, rfl, hb, _, _, rfl, rfl, _, rfl, _, _, rfl, rfl, _, rfl, ?_⟩
  refine ⟨_, rfl, _, rfl, _, rfl, _, rfl, _, rfl, _, rfl, _, _, rfl, rfl, _, rfl, _, _, rfl, rfl, _, _, rfl, rfl, (a + b + c) % 4294967296, _, _, rfl, fun H' p s ic => ?_⟩
  have e : decide ((4294967296 : Int) ≤ (a : Int) + (b : Int) + (c : Int)) = decide (Ra24.W ≤ a + b + c) := decide_eq_decide.mpr (by rw [Wv]; omega)
  exact pair_end hQ s ic rfl (by rw [e] <;> rfl)
theorem pure_difference : ∀ vs H Q E, sp_difference K vs H Q E → t_difference K E { nx := fun _ H' => Q .non H', rt := Q } (start ["a", "b", "more", "word", "fits"] vs) H := by
  rintro vs H Q E ⟨a, b, c, rfl, ⟨ha, hb, hc⟩, hQ⟩
  refine ⟨_, rfl, _, rfl, _, _, rfl, rfl, _, rfl, _, _, rfl, rfl, _, _, rfl, rfl, posW, ?_⟩
  refine ⟨_, rfl, a, rfl, ha, _, rfl, b, rfl, hb, _, _, rfl, rfl, _, rfl, _, _, rfl, rfl, _, rfl, ?_⟩
  have hw : ((a : Int) - (b : Int) - (c : Int)) % 4294967296 = ((Ra24.minus a b c).1 : Int) := by
    show _ = (((a + Ra24.W - b + Ra24.W - c) % Ra24.W : Nat) : Int)
    rw [Wv] at *
    omega
  refine ⟨_, rfl, _, rfl, _, rfl, _, rfl, _, rfl, _, rfl, _, _, rfl, rfl, _, rfl, _, _, rfl, rfl, _, _, rfl, rfl, (Ra24.minus a b c).1, _, _, vi hw rfl, fun H' p s ic => ?_⟩
  have e : decide ((a : Int) - (b : Int) - (c : Int) < 0) = decide (a < b + c) := decide_eq_decide.mpr (by omega)
  exact pair_end hQ s ic hw (by rw [e] <;> rfl)
theorem pure_plain : ∀ vs H Q E, sp_plain K vs H Q E → t_plain K E { nx := fun _ H' => Q .non H', rt := Q } (start ["word"] vs) H := by
  rintro vs H Q E ⟨n, rfl, hQ⟩
  exact ⟨_, rfl, _, rfl, n, false, false, rfl, fun H' p s ic => pair_end hQ s ic rfl rfl⟩
theorem pure_by_bits : ∀ vs H Q E, sp_by_bits K vs H Q E → t_by_bits K E { nx := fun _ H' => Q .non H', rt := Q } (start ["op", "a", "b"] vs) H := by
  rintro vs H Q E ⟨op, a, b, rfl, hb, hQ⟩
  have tail : ∀ z : Int, z = ((turned op b : Nat) : Int) →
    (tSeq (tIfS (tTest (tOp rEq (tOp rModI (tVar 0) (tC (.int 4))) (tC (.int 1)))) (tRet (tCall (sp_plain K) [] E0 (tCons (tOp rAndI (tVar 1) (tVar 2)) tNil))) tNext)
    (tSeq (tIfS (tTest (tOp rEq (tOp rModI (tVar 0) (tC (.int 4))) (tC (.int 2)))) (tRet (tCall (sp_plain K) [] E0 (tCons (tOp rOrI (tVar 1) (tVar 2)) tNil))) tNext)
    (tRet (tCall (sp_plain K) [] E0 (tCons (tOp rXorI (tVar 1) (tVar 2)) tNil))))) { nx := fun _ H' => Q .non H', rt := Q } [some (.int (op : Int)), some (.int (a : Int)), some (.int z)] H := by
    rintro z rfl
    have an : Builtin.bitAnd (a : Int) (turned op b : Int) = ((a &&& turned op b : Nat) : Int) := by rw [bitAnd_pp (by omega) (by omega)] <;> rfl
    have o : Builtin.bitOr (a : Int) (turned op b : Int) = ((a ||| turned op b : Nat) : Int) := by rw [Bits.bitOr_pp (by omega) (by omega)] <;> rfl
    have xo : Builtin.bitXor (a : Int) (turned op b : Int) = ((a ^^^ turned op b : Nat) : Int) := by rw [Bits.bitXor_pp (by omega) (by omega)] <;> rfl
    unfold byBits at hQ
    refine ⟨_, rfl, _, _, rfl, rfl, (show (0 : Int) < 4 by decide), rfl, _, rfl, iteEq (fun c => ?_) fun c => ?_⟩
    · rw [if_pos (show op % 4 = 1 by omega)] at hQ
      exact ⟨_, rfl, _, rfl, _, _, rfl, rfl, _, vi an rfl, hQ⟩
    · rw [if_neg (show ¬ op % 4 = 1 by omega)] at hQ
      refine ⟨_, rfl, _, _, rfl, rfl, (show (0 : Int) < 4 by decide), rfl, _, rfl, iteEq (fun c => ?_) fun c => ?_⟩
      · rw [if_pos (show op % 4 = 2 by omega)] at hQ
        exact ⟨_, rfl, _, rfl, _, _, rfl, rfl, _, vi o rfl, hQ⟩
      · rw [if_neg (show ¬ op % 4 = 2 by omega)] at hQ
        exact ⟨_, rfl, _, rfl, _, _, rfl, rfl, _, vi xo rfl, hQ⟩
  rw [Wv] at hb
  refine ⟨_, rfl, _, _, rfl, rfl, _, rfl, iteD (fun c => ?_) fun c => ?_⟩
  · refine ⟨_, rfl, _, _, rfl, rfl, tail _ ?_⟩
    unfold turned
    rw [if_pos (by omega), Wv]
    omega
  · refine tail _ ?_
    unfold turned
    rw [if_neg (by omega)]
theorem pure_product : ∀ vs H Q E, sp_product K vs H Q E → t_product K E { nx := fun _ H' => Q .non H', rt := Q } (start ["a", "b", "with_signs", "found"] vs) H := by
  rintro vs H Q E ⟨a, b, s, rfl, ⟨ha, hb⟩, hQ⟩
  have tail : ∀ f : Int, (f = if s = true then Ra24.signed a * Ra24.signed b else (a : Int) * (b : Int)) →
    (tRet (tTup (tCons (tOp rModI (tVar 3) (tC (.int 4294967296))) (tCons (tOp rModI (tOp rFdivW (tVar 3) (tC (.int 4294967296))) (tC (.int 4294967296))) tNil)))) { nx := fun _ H' => Q .non H', rt := Q } [some (.int (a : Int)), some (.int (b : Int)), some (.bl s), some (.int f)] H := by
    intro f hf
    obtain ⟨e1, e2⟩ := prod_lo ha hb f hf
    refine ⟨_, rfl, _, _, rfl, rfl, posW, _, rfl, _, _, rfl, rfl, divW _, _, _, rfl, rfl, posW, (by show 2 ≤ sizeLine; decide), fun t ht => hQ _ t (Same.new ht) (upd_same.trans ?_)⟩
    exact congrArg (fun l => some (HO.tup l)) (vi e1 (vi e2 rfl))
  have wa := ha
  have wb := hb
  rw [Wv] at wa wb
  refine ⟨_, rfl, _, rfl, _, _, rfl, rfl, Or.inl ⟨by omega, by omega⟩, ?_⟩
  refine ⟨_, rfl, _, rfl, iteB (fun c => ?_) fun c => ?_⟩
  · have sa := signed_lo ha
    exact ⟨_, rfl, a, rfl, ha, _, rfl, b, rfl, hb, _, _, rfl, rfl, Or.inl ⟨by omega, by omega⟩, tail _ (by rw [if_pos c])⟩
  · exact tail _ (by rw [if_neg (by rw [c]; decide)])
theorem pure_toward_nought : ∀ vs H Q E, sp_toward_nought K vs H Q E → t_toward_nought K E { nx := fun _ H' => Q .non H', rt := Q } (start ["one", "other", "found"] vs) H := by
  rintro vs H Q E ⟨x, y, rfl, ⟨hy, hy2⟩, hQ⟩
  have e := tdiv_of x y
  refine ⟨_, rfl, _, rfl, _, rfl, _, rfl, _, _, rfl, rfl, ?_, ?_⟩
  · show CDivW _ _
    rw [abs_is y]
    exact wide_div (b := 64) (by omega) (by rw [Int.natAbs_natCast]; exact hy2) (by decide) (by decide)
  · refine ⟨_, rfl, _, _, rfl, rfl, _, rfl, _, _, rfl, rfl, rfl, _, rfl, ?_⟩
    rw [dec_bl]
    refine iteB (fun c => ?_) fun c => ?_
    · refine ⟨_, rfl, _, _, rfl, rfl, qint hQ ?_⟩
      rw [if_pos c] at e
      rw [← e, ← abs_is x, ← abs_is y]
    · refine ⟨_, rfl, qint hQ ?_⟩
      rw [if_neg (by rw [c]; decide)] at e
      rw [← e, ← abs_is x, ← abs_is y]
theorem pure_cut_off : ∀ vs H Q E, sp_cut_off K vs H Q E → t_cut_off K E { nx := fun _ H' => Q .non H', rt := Q } (start ["found", "least", "most", "kept", "word"] vs) H := by
  rintro vs H Q E ⟨f, lo, hi, rfl, hQ⟩
  refine ⟨_, rfl, _, rfl, _, rfl, _, _, rfl, _, _, rfl, ?_⟩
  refine ⟨_, rfl, _, _, rfl, rfl, posW, ?_⟩
  have hw := (wrap_cast (keptIn f lo hi)).symm
  refine ⟨_, rfl, _, rfl, _, rfl, _, rfl, rfl, Ra24.wrap (keptIn f lo hi), _, false, vi hw rfl, fun H' p s ic => ?_⟩
  exact pair_end hQ s ic hw (by rw [dec_int] <;> rfl)
end
end Wd
set_option Elab.async false
set_option linter.all false
set_option maxRecDepth 100000
set_option maxHeartbeats 4000000
namespace Wd
open PySem PySem.Spec PyProof.Rows L2
theorem divided_u {y a b : Nat} (h : b ≠ 0) : Ra24.divided false y a b = some (if Ra24.W ≤ (y * Ra24.W + a) / b then (Ra24.W - 1, true) else ((y * Ra24.W + a) / b, false)) := by
  unfold Ra24.divided
  rw [if_neg h]
  show (if false = false then _ else _) = _
  rw [if_pos rfl]
  split <;> rfl
theorem divided_s {y a b : Nat} (h : b ≠ 0) (z : Int) (hz : z = if y * Ra24.W + a < 2 ^ 63 then ((y * Ra24.W + a : Nat) : Int) else ((y * Ra24.W + a : Nat) : Int) - 2 ^ 64) :
    Ra24.divided true y a b = some (if Int.tdiv z (Ra24.signed b) < -(2 ^ 31) then (2 ^ 31, true) else if 2 ^ 31 ≤ Int.tdiv z (Ra24.signed b) then (2 ^ 31 - 1, true) else (Ra24.wrap (Int.tdiv z (Ra24.signed b)), false)) := by
  unfold Ra24.divided
  rw [if_neg h]
  show (if true = false then _ else _) = _
  rw [if_neg (by decide), hz]
  dsimp only
  split <;> split <;> (try split) <;> rfl
section
variable {K : PySem.W.Frag} {mg : Str → Option Value}
theorem pure_quotient : ∀ vs H Q E, sp_quotient K vs H Q E → t_quotient K E { nx := fun _ H' => Q .non H', rt := Q } (start ["y", "a", "b", "with_signs", "high", "found"] vs) H := by
  rintro vs H Q E ⟨y, a, b, s, rfl, ⟨hy, ha, hb⟩, hQ⟩
  refine ⟨_, rfl, rfl, _, rfl, iteEq (fun c => ?_) fun c => ?_⟩
  · obtain rfl : b = 0 := by omega
    have e : Ra24.divided s y a 0 = none := rfl
    rw [e] at hQ
    exact ⟨42, rfl, fun d H' s hd => hQ d H' s hd⟩
  · have hb0 : b ≠ 0 := by omega
    have wy := hy
    have wa := ha
    have wb := hb
    rw [Wv] at wy wa wb
    refine ⟨_, rfl, _, _, rfl, rfl, Or.inl ⟨by decide, by decide⟩, _, rfl, _, _, rfl, rfl, ?_⟩
    have eh : (4294967296 : Int) * (y : Int) + (a : Int) = ((y * Ra24.W + a : Nat) : Int) := by
      rw [Wv]
      omega
    cases s with
    | false =>
      refine ⟨_, rfl, _, rfl, iteT ?_⟩
      refine ⟨_, rfl, _, rfl, _, _, rfl, rfl, wide_div (b := 33) (by omega) (by rw [Int.natAbs_natCast]; omega) (by decide) (by decide), ?_⟩
      have ef : ((4294967296 : Int) * (y : Int) + (a : Int)) / (b : Int) = (((y * Ra24.W + a) / b : Nat) : Int) := by
        rw [eh]
        rfl
      rw [divided_u hb0, ← cut_u ef] at hQ
      exact ⟨_, rfl, _, 0, 4294967295, rfl, hQ⟩
    | true =>
      refine ⟨_, rfl, _, rfl, iteF ?_⟩
      have tail : ∀ z : Int, (z = if y * Ra24.W + a < 2 ^ 63 then ((y * Ra24.W + a : Nat) : Int) else ((y * Ra24.W + a : Nat) : Int) - 2 ^ 64) →
        (tRet (tCall (sp_cut_off K) [] E0 (tCons (tCall (sp_toward_nought K) [] E0 (tCons (tVar 4) (tCons (tCall (sp_signed K) [] E0 (tCons (tVar 2) tNil)) tNil))) (tCons (tOp rSubI (tC (.int 0)) (tC (.int 2147483648))) (tCons (tOp rSubI (tC (.int 2147483648)) (tC (.int 1))) tNil))))) { nx := fun _ H' => Q .non H', rt := Q } [some (.int (y : Int)), some (.int (a : Int)), some (.int (b : Int)), some (.bl true), some (.int z), none] H := by
        intro z hz
        have hs := signed_lo hb
        have hs0 : Ra24.signed b ≠ 0 := by
          unfold Ra24.signed
          have e1 : (2 : Nat) ^ 31 = 2147483648 := by decide
          have e2 : (2 : Int) ^ 32 = 4294967296 := by decide
          rw [e1, e2]
          split <;> omega
        rw [divided_s hb0 z hz, ← cut_s] at hQ
        exact ⟨_, rfl, _, rfl, b, rfl, hb, z, _, rfl, ⟨hs0, by omega⟩, _, _, rfl, rfl, _, _, rfl, rfl, _, -2147483648, 2147483647, rfl, hQ⟩
      have e63 : (2 : Nat) ^ 63 = 9223372036854775808 := by decide
      have e64 : (2 : Int) ^ 64 = 18446744073709551616 := by decide
      rw [e63, e64] at tail
      refine ⟨_, rfl, _, _, rfl, rfl, Or.inl ⟨by decide, by decide⟩, _, _, rfl, rfl, _, rfl, iteD (fun c2 => ?_) fun c2 => ?_⟩
      · rw [eh] at c2
        refine ⟨_, rfl, _, _, rfl, rfl, Or.inl ⟨by decide, by decide⟩, _, _, rfl, rfl, tail _ ?_⟩
        rw [if_neg (by omega), eh]
        rfl
      · rw [eh] at c2
        refine tail _ ?_
        rw [if_pos (by omega), eh]
theorem pure_tagged (T : Txt K mg) : ∀ vs H Q E, sp_tagged K vs H Q E → t_tagged K E { nx := fun _ H' => Q .non H', rt := Q } (start ["op", "a", "b", "word", "conditions", "bad"] vs) H := by
  rintro vs H Q E ⟨op, a, b, rfl, ⟨ha, hb⟩, hQ⟩
  have tail : ∀ (r : Nat × Ra24.Icc) (H1 : Hp) (p : Addr), (r = if op % 2 = 0 then Ra24.plus a b 0 else Ra24.minus a b 0) → (∃ v c, r.2 = Ra24.nz r.1 v c) → Same H H1 → IccAt K H1 p r.2 →
    (tSeq (tAsg (tOrV (tFld K (tVar 4) "v") (tOrV (tOp rNe (tOp rModI (tVar 1) (tC (.int 4))) (tC (.int 0))) (tOp rNe (tOp rModI (tVar 2) (tC (.int 4))) (tC (.int 0))))) (gName 5))
    (tSeq (tIfS (tAnd (tB (tVar 5)) (tTest (tOp rGeB (tVar 0) (tC (.int 34))))) (tTrap K (fun cls d _ H => E cls d H) (tCons (tC (.int 10)) tNil)) tNext)
    (tRet (tTup (tCons (tVar 3) (tCons (tCall (sp_conditions_by K) [] E0 (tCons (tVar 3) (tCons (tVar 5) (tCons (tFld K (tVar 4) "c") tNil)))) tNil)))))) { nx := fun _ H' => Q .non H', rt := Q } [some (.int (op : Int)), some (.int (a : Int)), some (.int (b : Int)), some (.int (r.1 : Int)), some (.ref p), none] H1 := by
    rintro r H1 p hr ⟨v, c, hrv⟩ s1 ⟨dx, hp⟩
    have et : taggedOf op a b = (r.1, { r.2 with v := r.2.v || (decide (a % 4 ≠ 0) || decide (b % 4 ≠ 0)) }) := by
      unfold taggedOf Ra24.tagged
      rw [← hr]
    have rest : ∀ bad : Bool, bad = (r.2.v || (decide (a % 4 ≠ 0) || decide (b % 4 ≠ 0))) →
      (tSeq (tIfS (tAnd (tB (tVar 5)) (tTest (tOp rGeB (tVar 0) (tC (.int 34))))) (tTrap K (fun cls d _ H => E cls d H) (tCons (tC (.int 10)) tNil)) tNext)
    (tRet (tTup (tCons (tVar 3) (tCons (tCall (sp_conditions_by K) [] E0 (tCons (tVar 3) (tCons (tVar 5) (tCons (tFld K (tVar 4) "c") tNil)))) tNil))))) { nx := fun _ H' => Q .non H', rt := Q } [some (.int (op : Int)), some (.int (a : Int)), some (.int (b : Int)), some (.int (r.1 : Int)), some (.ref p), some (.bl bad)] H1 := by
      intro bad hbad
      rw [et] at hQ
      rw [← hbad] at hQ
      have fin : ¬ (bad = true ∧ 34 ≤ op) → (tRet (tTup (tCons (tVar 3) (tCons (tCall (sp_conditions_by K) [] E0 (tCons (tVar 3) (tCons (tVar 5) (tCons (tFld K (tVar 4) "c") tNil)))) tNil)))) { nx := fun _ H' => Q .non H', rt := Q } [some (.int (op : Int)), some (.int (a : Int)), some (.int (b : Int)), some (.int (r.1 : Int)), some (.ref p), some (.bl bad)] H1 := by
        intro hn
        rw [if_neg hn] at hQ
        refine ⟨_, rfl, _, rfl, _, rfl, _, rfl, p, _, dx, _, _, rfl, hp, T.cl_Conditions, T.n_Conditions_c, ic_c _, r.1, bad, r.2.c, rfl, fun H' q s2 ic => ?_⟩
        refine pair_end hQ (s1.trans s2) ic rfl ?_
        show Ra24.nz r.1 bad r.2.c = { r.2 with v := bad }
        rw [hrv]
        rfl
      refine ⟨_, rfl, _, rfl, iteB (fun c1 => ?_) fun c1 => ?_⟩
      · refine ⟨_, rfl, _, _, rfl, rfl, _, rfl, iteD (fun c2 => ?_) fun c2 => ?_⟩
        · rw [if_pos ⟨c1, by omega⟩] at hQ
          exact ⟨10, rfl, fun d H' s hd => hQ d H' (s1.trans s) hd⟩
        · exact fin fun z => c2 (by omega)
      · exact iteF (fin fun z => by rw [c1] at z; exact Bool.false_ne_true z.1)
    refine ⟨_, rfl, p, _, dx, _, _, rfl, hp, T.cl_Conditions, T.n_Conditions_v, ic_v _, _, rfl, iteB (fun c1 => rest true ?_) fun c1 => ?_⟩
    · rw [c1, Bool.true_or]
    · refine ⟨_, rfl, _, _, rfl, rfl, (show (0 : Int) < 4 by decide), rfl, _, rfl, iteNeq (fun c2 => rest true ?_) fun c2 => ?_⟩
      · rw [decide_eq_true (show a % 4 ≠ 0 by omega), Bool.true_or, Bool.or_true]
      · refine ⟨_, rfl, _, _, rfl, rfl, (show (0 : Int) < 4 by decide), rfl, rest _ ?_⟩
        rw [c1, decide_eq_false (show ¬ a % 4 ≠ 0 by omega), dec_int, Bool.false_or, Bool.false_or]
        by_cases z : b % 4 = 0
        · rw [decide_eq_true (by omega), decide_eq_false (by omega)]
          rfl
        · rw [decide_eq_false (by omega), decide_eq_true (by omega)]
          rfl
  refine ⟨_, rfl, _, _, rfl, rfl, (show (0 : Int) < 2 by decide), rfl, _, rfl, iteEq (fun c => ?_) fun c => ?_⟩
  · refine ⟨_, rfl, _, rfl, a, b, 0, rfl, ⟨ha, hb, by decide⟩, fun H' t p s ht ic => ⟨t, _, rfl, SqT.of ht, rfl, _, _, rfl, _, _, rfl, rfl, tail _ H' p ?_ ⟨_, _, rfl⟩ s ic⟩⟩
    rw [if_pos (by omega)]
  · refine ⟨_, rfl, _, rfl, a, b, 0, rfl, ⟨ha, hb, by decide⟩, fun H' t p s ht ic => ⟨t, _, rfl, SqT.of ht, rfl, _, _, rfl, _, _, rfl, rfl, tail _ H' p ?_ ⟨_, _, rfl⟩ s ic⟩⟩
    rw [if_neg (by omega)]
theorem pure_product_step (T : Txt K mg) : ∀ vs H Q E, sp_product_step K vs H Q E → t_product_step K E { nx := fun _ H' => Q .non H', rt := Q } (start ["a", "b", "y", "conditions", "u", "word", "found"] vs) H := by
  rintro vs H Q E ⟨a, b, y, p, i, rfl, ⟨ha, hb, hy⟩, ⟨dx, hp⟩, hQ⟩
  rw [Wv] at ha hb hy
  refine ⟨_, rfl, _, _, rfl, rfl, ⟨by decide, by decide⟩, _, rfl, p, _, dx, _, _, rfl, hp, T.cl_Conditions, T.n_Conditions_n, ic_n i, ?_⟩
  refine ⟨_, rfl, p, _, dx, _, _, rfl, hp, T.cl_Conditions, T.n_Conditions_v, ic_v i, rfl, Or.inr ⟨_, rfl, ?_⟩⟩
  refine ⟨_, _, rfl, rfl, Or.inl ⟨by decide, by decide⟩, _, _, rfl, rfl, ?_⟩
  have eu : (a : Int) / 2 + 2147483648 * (if (!decide (V.bl i.n = V.bl i.v)) = true then (1 : Int) else 0) = ((a / 2 + (if i.n != i.v then 2 ^ 31 else 0) : Nat) : Int) := by
    have e1 : (2 : Nat) ^ 31 = 2147483648 := by decide
    rw [dec_bl, e1]
    split <;> omega
  have lu : a / 2 + (if i.n != i.v then 2 ^ 31 else 0) < Ra24.W := by
    have e1 : (2 : Nat) ^ 31 = 2147483648 := by decide
    rw [Wv, e1]
    split <;> omega
  have eb : (b : Int) * ((y : Int) % 2) = ((if y % 2 = 1 then b else 0 : Nat) : Int) := by
    split
    · rw [show (y : Int) % 2 = 1 by omega, Int.mul_one]
    · rw [show (y : Int) % 2 = 0 by omega, Int.mul_zero]
      rfl
  have lb : (if y % 2 = 1 then b else 0) < Ra24.W := by
    rw [Wv]
    split <;> omega
  refine ⟨_, rfl, _, rfl, _, rfl, _, _, rfl, rfl, (show (0 : Int) < 2 by decide), _, _, rfl, rfl, Or.inl ⟨by omega, by omega⟩, _, _, 0, vi eu (vi eb rfl), ⟨lu, lb, by decide⟩, fun H' t q s ht ic => ?_⟩
  refine ⟨t, _, rfl, SqT.of ht, rfl, _, _, rfl, _, _, rfl, rfl, ?_⟩
  refine ⟨_, rfl, _, rfl, _, rfl, _, _, rfl, rfl, ⟨by decide, by decide⟩, _, rfl, _, _, rfl, rfl, (show (0 : Int) < 2 by decide), _, _, rfl, rfl, Or.inl ⟨by decide, by decide⟩, _, _, rfl, rfl, (by show 3 ≤ sizeLine; decide), fun l hl => ?_⟩
  refine hQ _ l q (s.trans (Same.new hl)) (upd_same.trans (congrArg (fun l => some (HO.tup l)) (vc (vc (vi ?_ rfl))))) (ic.mono (Same.new hl))
  have e1 : (2 : Nat) ^ 31 = 2147483648 := by decide
  rw [e1]
  omega
theorem pure_shifted : ∀ vs H Q E, sp_shifted K vs H Q E → t_shifted K E { nx := fun _ H' => Q .non H', rt := Q } (start ["op", "a", "b", "places"] vs) H := by
  rintro vs H Q E ⟨op, a, b, rfl, ha, hQ⟩
  have wa := ha
  rw [Wv] at wa
  have e5 : b / 2 ^ 0 % 2 ^ 5 = b % 32 := by simp
  unfold shiftOf at hQ
  refine ⟨_, rfl, b, 0, 5, rfl, (by decide), ?_⟩
  rw [e5]
  refine ⟨_, rfl, rfl, _, rfl, iteEq (fun c => ?_) fun c => ?_⟩
  · rw [if_pos (by omega)] at hQ
    refine ⟨_, rfl, _, rfl, _, _, rfl, rfl, ⟨Int.natCast_nonneg _, by omega, by omega⟩, _, _, rfl, rfl, posW, qint hQ ?_⟩
    rw [Int.toNat_natCast, Wv]
    simp
  · rw [if_neg (by omega)] at hQ
    refine ⟨_, rfl, rfl, _, rfl, iteEq (fun c2 => ?_) fun c2 => ?_⟩
    · rw [if_pos (by omega)] at hQ
      refine ⟨_, rfl, _, rfl, _, _, rfl, rfl, Int.natCast_nonneg _, qint hQ ?_⟩
      rw [Int.toNat_natCast]
      simp
    · rw [if_neg (by omega)] at hQ
      refine ⟨_, rfl, a, rfl, ha, _, rfl, _, _, rfl, rfl, Int.natCast_nonneg _, _, _, rfl, rfl, posW, qint hQ ?_⟩
      rw [Int.toNat_natCast, wrap_cast]
theorem in2 (z a b : Int) : inV (.int z) [.int a, .int b] = (decide (z = a) || decide (z = b)) := by
  show ((a == z) || ((b == z) || false)) = _
  by_cases h1 : z = a
  · subst h1
    simp
  · have e1 : (a == z) = false := by simpa using fun q => h1 q.symm
    rw [e1, decide_eq_false h1, Bool.false_or, Bool.false_or, Bool.or_false]
    by_cases h2 : z = b
    · subst h2
      simp
    · rw [decide_eq_false h2]
      simpa using fun q => h2 q.symm
theorem pure_simple : ∀ vs H Q E, sp_simple K vs H Q E → t_simple K E { nx := fun _ H' => Q .non H', rt := Q } (start ["op", "a", "b", "carry"] vs) H := by
  rintro vs H Q E ⟨op, a, b, c, rfl, ⟨ha, hb, hc⟩, hQ⟩
  unfold simpleOf at hQ
  refine ⟨_, rfl, rfl, _, rfl, iteEq (fun h => ?_) fun h => ?_⟩
  · rw [if_pos (by omega)] at hQ
    exact ⟨_, rfl, _, rfl, a, b, 0, rfl, ⟨ha, hb, by decide⟩, hQ⟩
  rw [if_neg (by omega)] at hQ
  refine ⟨_, rfl, rfl, _, rfl, iteEq (fun h => ?_) fun h => ?_⟩
  · rw [if_pos (by omega)] at hQ
    exact ⟨_, rfl, _, rfl, a, b, 0, rfl, ⟨ha, hb, by decide⟩, hQ⟩
  rw [if_neg (by omega)] at hQ
  refine ⟨_, rfl, rfl, _, rfl, iteEq (fun h => ?_) fun h => ?_⟩
  · rw [if_pos (by omega)] at hQ
    exact ⟨_, rfl, _, rfl, _, rfl, a, b, c, rfl, ⟨ha, hb, hc⟩, hQ⟩
  rw [if_neg (by omega)] at hQ
  refine ⟨_, rfl, rfl, _, rfl, iteEq (fun h => ?_) fun h => ?_⟩
  · rw [if_pos (by omega)] at hQ
    exact ⟨_, rfl, _, rfl, _, rfl, a, b, c, rfl, ⟨ha, hb, hc⟩, hQ⟩
  rw [if_neg (by omega)] at hQ
  refine ⟨_, rfl, (by show 2 ≤ sizeLine; decide), fun l hl => ⟨l, _, rfl, Or.inr (SqT.of upd_same), rfl, rfl, _, rfl, ?_⟩⟩
  have s := Same.new (o := .tup [.int 9, .int 13]) hl
  show if inV (.int (op : Int)) [.int 9, .int 13] = true then _ else _
  rw [in2]
  by_cases h9 : op = 9 ∨ op = 13
  · rw [if_pos h9] at hQ
    refine (if_pos ?_).mpr ⟨2, rfl, fun d H' s2 hd => hQ d H' (s.trans s2) hd⟩
    rcases h9 with rfl | rfl <;> rfl
  · rw [if_neg h9] at hQ
    refine (if_neg ?_).mpr ⟨_, rfl, _, rfl, _, rfl, op, a, b, rfl, hb, fun H' t p s2 ht ic => hQ H' t p (s.trans s2) ht ic⟩
    rw [decide_eq_false (by omega), decide_eq_false (by omega)]
    decide
end
end Wd
set_option Elab.async false
set_option linter.all false
set_option maxRecDepth 100000
set_option maxHeartbeats 4000000
namespace Wd
open PySem PySem.Spec PyProof.Rows L2
/-! ### a machine in the heap -/
/-- a list of numbers by place -/
@[irreducible] def tab (n : Nat) (f : Nat → Nat) : List V := (List.range n).map fun i => V.int (f i : Int)
theorem tab_len (n : Nat) (f : Nat → Nat) : (tab n f).length = n := by
  unfold tab
  simp
theorem tab_get {n : Nat} (f : Nat → Nat) {i : Nat} (h : i < n) : (tab n f)[i]? = some (.int (f i : Int)) := by
  unfold tab
  simp [h]
theorem tab_set {n : Nat} (f g : Nat → Nat) (j x : Nat) (hj : g j = x) (hg : ∀ i, i < n → i ≠ j → g i = f i) : (tab n f).set j (.int (x : Int)) = tab n g := by
  apply List.ext_getElem?
  intro i
  by_cases h : i < n
  · rw [tab_get g h, List.getElem?_set]
    by_cases e : j = i
    · subst e
      rw [if_pos rfl, if_pos (by rw [tab_len]; exact h), hj]
    · rw [if_neg e, tab_get f h, hg i h fun z => e z.symm]
  · rw [List.getElem?_eq_none (by rw [List.length_set, tab_len]; omega), List.getElem?_eq_none (by rw [tab_len]; omega)]
theorem tab_congr {n : Nat} {f g : Nat → Nat} (h : ∀ i, i < n → f i = g i) : tab n f = tab n g := by
  apply List.ext_getElem?
  intro i
  by_cases c : i < n
  · rw [tab_get f c, tab_get g c, h i c]
  · rw [List.getElem?_eq_none (by rw [tab_len]; omega), List.getElem?_eq_none (by rw [tab_len]; omega)]
structure Ad where
  m : Addr
  dm : Addr
  r : Addr
  dr : Addr
  sh : Addr
  ws : Addr
  mem : Addr
  wa : Nat → Addr
def winIx (i j : Nat) : Nat := if j < 8 then 16 * ((i + 7) % 8) + 8 + j else 16 * i + (j - 8)
def shL (s : Ra24.M) : List V := tab 8 (Ra24.reg s)
def winL (s : Ra24.M) (i : Nat) : List V := tab 16 fun j => s.w (winIx i j)
def wsL (A : Ad) : List V := (List.range 8).map fun i => .ref (A.wa i)
def memL (f : Nat → Nat) : List V := tab 65536 f
def regF (A : Ad) (s : Ra24.M) : List (Str × V) := [("shared", .ref A.sh), ("windows", .ref A.ws), ("window", .int (s.cwp : Int)), ("mask", .int (s.wim : Int))]
def macF (A : Ad) (c : Addr) (s : Ra24.M) : List (Str × V) := [("registers", .ref A.r), ("y", .int (s.y : Int)), ("conditions", .ref c), ("place", .int (s.pc : Int)), ("after", .int (s.npc : Int)), ("memory", .ref A.mem)]
structure WF (s : Ra24.M) : Prop where
  g : ∀ k, s.g k < Ra24.W
  w : ∀ i, s.w i < Ra24.W
  y : s.y < Ra24.W
  pc : s.pc < Ra24.W
  npc : s.npc < Ra24.W
  cwp : s.cwp < 8
  mem : ∀ p, s.mem p < 256
structure Mach (K : PySem.W.Frag) (H : Hp) (A : Ad) (s : Ra24.M) : Prop where
  m : ∃ c, H A.m = some (.ins (He.ga K "Machine") A.dm (macF A c s)) ∧ IccAt K H c s.icc
  r : H A.r = some (.ins (He.ga K "Registers") A.dr (regF A s))
  sh : H A.sh = some (.lst (shL s))
  ws : H A.ws = some (.lst (wsL A))
  w : ∀ i, i < 8 → H (A.wa i) = some (.lst (winL s i))
  me : H A.mem = some (.lst (memL s.mem))
  d1 : ∀ i, i < 8 → A.wa i ≠ A.sh ∧ A.wa i ≠ A.mem ∧ A.wa i ≠ A.ws
  d2 : ∀ i j, i < 8 → j < 8 → A.wa i = A.wa j → i = j
  d3 : A.sh ≠ A.mem ∧ A.sh ≠ A.ws ∧ A.mem ≠ A.ws
  ok : WF s
/-- what a machine's methods may change -/
def Ad.own (A : Ad) (b : Addr) : Prop := b = A.m ∨ b = A.r ∨ b = A.sh ∨ b = A.mem ∨ ∃ i, i < 8 ∧ b = A.wa i
def Fr (A : Ad) (H H' : Hp) : Prop := ∀ b o, H b = some o → ¬ A.own b → H' b = some o
theorem Fr.refl (A : Ad) (H : Hp) : Fr A H H := fun _ _ h _ => h
theorem Fr.trans {A : Ad} {H H1 H2 : Hp} (a : Fr A H H1) (b : Fr A H1 H2) : Fr A H H2 := fun c o h n => b c o (a c o h n) n
theorem Fr.same {A : Ad} {H H1 : Hp} (a : Same H H1) : Fr A H H1 := fun c o h _ => a c o h
theorem Fr.upd {A : Ad} {H : Hp} {b : Addr} {o : HO} (h : A.own b) : Fr A H (upd H b o) := fun c u e n => by
  rw [upd_ne (a := b) (b := c) (by rintro rfl; exact n h)]
  exact e
theorem Mach.mono {K : PySem.W.Frag} {H H' : Hp} {A : Ad} {s : Ra24.M} (e : Same H H') (M : Mach K H A s) : Mach K H' A s := by
  obtain ⟨c, hm, dx, hc⟩ := M.m
  exact ⟨⟨c, e _ _ hm, dx, e _ _ hc⟩, e _ _ M.r, e _ _ M.sh, e _ _ M.ws, fun i hi => e _ _ (M.w i hi), e _ _ M.me, M.d1, M.d2, M.d3, M.ok⟩
/-- an instruction's end -/
def GoOut (K : PySem.W.Frag) (H : Hp) (A : Ad) (Q : VK) (E : XK) (g : Ra24.Go) : Prop := match g with
  | .error t => TrapOut K H E t
  | .ok s' => ∀ H', Mach K H' A s' → Fr A H H' → Q .non H'
def MachOut (K : PySem.W.Frag) (H : Hp) (A : Ad) (Q : VK) (s' : Ra24.M) : Prop := ∀ H', Mach K H' A s' → Fr A H H' → Q .non H'
/-! ### the promises of registers -/
def rowIx (s : Ra24.M) (k : Nat) : Nat := if k < 24 then s.cwp else (s.cwp + 1) % 8
def colIx (k : Nat) : Nat := if k < 24 then k - 8 else k - 24
def sp_Registers_row_of (K : PySem.W.Frag) : Sp := fun vs H Q _ => ∃ (A : Ad) (s : Ra24.M) (k : Nat), vs = [.ref A.r, .int k] ∧ Mach K H A s ∧ (8 ≤ k ∧ k < 32) ∧ Q (.ref (A.wa (rowIx s k))) H
def sp_Registers_place_of (K : PySem.W.Frag) : Sp := fun vs H Q _ => ∃ (x : V) (k : Nat), vs = [x, .int k] ∧ (8 ≤ k ∧ k < 32) ∧ Q (.int (colIx k : Int)) H
def sp_Registers_read (K : PySem.W.Frag) : Sp := fun vs H Q _ => ∃ (A : Ad) (s : Ra24.M) (k : Nat), vs = [.ref A.r, .int k] ∧ Mach K H A s ∧ k < 32 ∧ Q (.int (Ra24.reg s k : Int)) H
def sp_Registers_write (K : PySem.W.Frag) : Sp := fun vs H Q _ => ∃ (A : Ad) (s : Ra24.M) (k : Nat) (z : Int), vs = [.ref A.r, .int k, .int z] ∧ Mach K H A s ∧ k < 32 ∧ MachOut K H A Q (Ra24.set s k (Ra24.wrap z))
def sp_Registers_set_window (K : PySem.W.Frag) : Sp := fun vs H Q _ => ∃ (A : Ad) (s : Ra24.M) (z : Int), vs = [.ref A.r, .int z] ∧ Mach K H A s ∧ MachOut K H A Q { s with cwp := (z % 8).toNat }
def sp_Registers_set_mask (K : PySem.W.Frag) : Sp := fun vs H Q _ => ∃ (A : Ad) (s : Ra24.M) (n : Nat), vs = [.ref A.r, .int n] ∧ Mach K H A s ∧ MachOut K H A Q { s with wim := n }
def sp_Registers_is_barred (K : PySem.W.Frag) : Sp := fun vs H Q _ => ∃ (A : Ad) (s : Ra24.M) (z : Int), vs = [.ref A.r, .int z] ∧ Mach K H A s ∧ Q (.bl (s.wim.testBit (z % 8).toNat)) H
/-! ### the promises of a machine -/
def sp_Machine_set_memory (K : PySem.W.Frag) : Sp := fun vs H Q _ => ∃ (A : Ad) (s : Ra24.M) (r : Addr) (row : List Nat), vs = [.ref A.m, .ref r] ∧ Mach K H A s ∧ H r = some (.lst (row.map fun (n : Nat) => V.int (n : Int))) ∧ (row.length ≤ 1024 ∧ ∀ n ∈ row, n < 256) ∧
  ∀ H' p, H p = none → Mach K H' { A with mem := p } { s with mem := fun q => row.getD q 0 } → (∀ b o, H b = some o → b ≠ A.m → H' b = some o) → Q .non H'
def sp_Machine_set_y (K : PySem.W.Frag) : Sp := fun vs H Q _ => ∃ (A : Ad) (s : Ra24.M) (n : Nat), vs = [.ref A.m, .int n] ∧ Mach K H A s ∧ n < Ra24.W ∧ MachOut K H A Q { s with y := n }
def sp_Machine_set_conditions (K : PySem.W.Frag) : Sp := fun vs H Q _ => ∃ (A : Ad) (s : Ra24.M) (p : Addr) (i : Ra24.Icc), vs = [.ref A.m, .ref p] ∧ Mach K H A s ∧ IccAt K H p i ∧ MachOut K H A Q { s with icc := i }
def sp_Machine_set_places (K : PySem.W.Frag) : Sp := fun vs H Q _ => ∃ (A : Ad) (s : Ra24.M) (a b : Int), vs = [.ref A.m, .int a, .int b] ∧ Mach K H A s ∧ MachOut K H A Q { s with pc := Ra24.wrap a, npc := Ra24.wrap b }
def sp_Machine_go_on (K : PySem.W.Frag) : Sp := fun vs H Q _ => ∃ (A : Ad) (s : Ra24.M), vs = [.ref A.m] ∧ Mach K H A s ∧ MachOut K H A Q (Ra24.next s)
def sp_Machine_jump (K : PySem.W.Frag) : Sp := fun vs H Q _ => ∃ (A : Ad) (s : Ra24.M) (t : Int), vs = [.ref A.m, .int t] ∧ Mach K H A s ∧ MachOut K H A Q (Ra24.jump s (Ra24.wrap t))
def sp_Machine_number_at (K : PySem.W.Frag) : Sp := fun vs H Q _ => ∃ (A : Ad) (s : Ra24.M) (p n : Nat), vs = [.ref A.m, .int p, .int n] ∧ Mach K H A s ∧ (p + n ≤ 65536 ∧ n ≤ 8) ∧ ∀ H', Same H H' → Q (.int (Ra24.get s p n : Int)) H'
def sp_Machine_put (K : PySem.W.Frag) : Sp := fun vs H Q _ => ∃ (A : Ad) (s : Ra24.M) (p n x : Nat), vs = [.ref A.m, .int p, .int n, .int x] ∧ Mach K H A s ∧ (p + n ≤ 65536 ∧ n ≤ 8) ∧ MachOut K H A Q (Ra24.put s p n x)
def sp_Machine_second (K : PySem.W.Frag) : Sp := fun vs H Q _ => ∃ (A : Ad) (s : Ra24.M) (x : Nat), vs = [.ref A.m, .int x] ∧ Mach K H A s ∧ Q (.int (Ra24.second s x : Int)) H
def sp_Machine_first (K : PySem.W.Frag) : Sp := fun vs H Q _ => ∃ (A : Ad) (s : Ra24.M) (x : Nat), vs = [.ref A.m, .int x] ∧ Mach K H A s ∧ Q (.int (Ra24.reg s (Ra24.field x 18 14) : Int)) H
def sp_Machine_give (K : PySem.W.Frag) : Sp := fun vs H Q _ => ∃ (A : Ad) (s : Ra24.M) (x : Nat) (z : Int), vs = [.ref A.m, .int x, .int z] ∧ Mach K H A s ∧ MachOut K H A Q (Ra24.next (Ra24.set s (Ra24.field x 29 25) (Ra24.wrap z)))
def sp_Machine_call (K : PySem.W.Frag) : Sp := fun vs H Q _ => ∃ (A : Ad) (s : Ra24.M) (x : Nat), vs = [.ref A.m, .int x] ∧ Mach K H A s ∧ MachOut K H A Q (Ra24.jump (Ra24.set s 15 s.pc) ((s.pc + 4 * (x % 2 ^ 30)) % Ra24.W))
def sp_Machine_branch (K : PySem.W.Frag) : Sp := fun vs H Q _ => ∃ (A : Ad) (s : Ra24.M) (x : Nat), vs = [.ref A.m, .int x] ∧ Mach K H A s ∧ MachOut K H A Q (Ra24.branch s x)
def shortOf (s : Ra24.M) (x : Nat) : Ra24.Go := if Ra24.field x 24 22 = 2 then .ok (Ra24.branch s x) else if Ra24.field x 24 22 = 4 then .ok (Ra24.next (Ra24.set s (Ra24.field x 29 25) (x % 2 ^ 22 * 1024))) else .error 2
def sp_Machine_short (K : PySem.W.Frag) : Sp := fun vs H Q E => ∃ (A : Ad) (s : Ra24.M) (x : Nat), vs = [.ref A.m, .int x] ∧ Mach K H A s ∧ GoOut K H A Q E (shortOf s x)
def spArith (K : PySem.W.Frag) (c : Nat → Prop) : Sp := fun vs H Q E => ∃ (A : Ad) (s : Ra24.M) (x : Nat), vs = [.ref A.m, .int x] ∧ Mach K H A s ∧ c (Ra24.field x 24 19) ∧ GoOut K H A Q E (Ra24.arith s x)
def spArithOp (K : PySem.W.Frag) (c : Nat → Prop) : Sp := fun vs H Q E => ∃ (A : Ad) (s : Ra24.M) (x : Nat), vs = [.ref A.m, .int x, .int (Ra24.field x 24 19 : Int)] ∧ Mach K H A s ∧ c (Ra24.field x 24 19) ∧ GoOut K H A Q E (Ra24.arith s x)
def sp_Machine_reckon (K : PySem.W.Frag) : Sp := spArithOp K fun op => op < 32
def sp_Machine_special (K : PySem.W.Frag) : Sp := spArithOp K fun op => 32 ≤ op ∧ op ≤ 48
def sp_Machine_jump_away (K : PySem.W.Frag) : Sp := spArith K fun op => op = 56
def sp_Machine_ask_trap (K : PySem.W.Frag) : Sp := spArith K fun op => op = 58
def sp_Machine_turn_window (K : PySem.W.Frag) : Sp := fun vs H Q E => ∃ (A : Ad) (s : Ra24.M) (x : Nat) (more trap : Int), vs = [.ref A.m, .int x, .int more, .int trap] ∧ Mach K H A s ∧
  ((Ra24.field x 24 19 = 60 ∧ more = -1 ∧ trap = 5) ∨ (Ra24.field x 24 19 = 61 ∧ more = 1 ∧ trap = 6)) ∧ GoOut K H A Q E (Ra24.arith s x)
def sp_Machine_operate (K : PySem.W.Frag) : Sp := spArith K fun _ => True
def placeOf (s : Ra24.M) (x : Nat) : Nat := (Ra24.reg s (Ra24.field x 18 14) + Ra24.second s x) % Ra24.W
def sp_Machine_place_for (K : PySem.W.Frag) : Sp := fun vs H Q E => ∃ (A : Ad) (s : Ra24.M) (x n : Nat), vs = [.ref A.m, .int x, .int n] ∧ Mach K H A s ∧ (0 < n ∧ n ≤ 8) ∧
  (if placeOf s x % n ≠ 0 then TrapOut K H E 7 else if 65536 < placeOf s x + n then TrapOut K H E 9 else Q (.int (placeOf s x : Int)) H)
def sp_Machine_load (K : PySem.W.Frag) : Sp := fun vs H Q _ => ∃ (A : Ad) (s : Ra24.M) (x : V) (op p n : Nat), vs = [.ref A.m, x, .int op, .int p] ∧ Mach K H A s ∧ sizesL.lookup (op : Int) = some (n : Int) ∧ (p + n ≤ 65536 ∧ 0 < n ∧ n ≤ 8) ∧
  ∀ H', Same H H' → Q (.int (if 9 ≤ op then psg (Ra24.get s p n) (8 * n) else (Ra24.get s p n : Int))) H'
def sp_Machine_move (K : PySem.W.Frag) : Sp := fun vs H Q E => ∃ (A : Ad) (s : Ra24.M) (x : Nat), vs = [.ref A.m, .int x] ∧ Mach K H A s ∧ GoOut K H A Q E (Ra24.memory s x)
def sp_Machine_step (K : PySem.W.Frag) : Sp := fun vs H Q E => ∃ (A : Ad) (s : Ra24.M), vs = [.ref A.m] ∧ Mach K H A s ∧ GoOut K H A Q E (Ra24.step s)
/-! ### makers -/
def start0 : Ra24.M := Ra24.whole Ra24.fresh fun _ => 0
structure RegsNew (K : PySem.W.Frag) (H H' : Hp) (p dx : Addr) (A : Ad) : Prop where
  r : H' p = some (.ins (He.ga K "Registers") dx (regF A start0))
  sh : H' A.sh = some (.lst (shL start0))
  ws : H' A.ws = some (.lst (wsL A))
  w : ∀ i, i < 8 → H' (A.wa i) = some (.lst (winL start0 i))
  d1 : ∀ i, i < 8 → A.wa i ≠ A.sh ∧ A.wa i ≠ A.ws
  d2 : ∀ i j, i < 8 → j < 8 → A.wa i = A.wa j → i = j
  d3 : A.sh ≠ A.ws
  keep : ∀ b o, H b = some o → b ≠ p → H' b = some o
  nsh : H A.sh = none
  nws : H A.ws = none
  nw : ∀ i, i < 8 → H (A.wa i) = none
def sp_Registers_init (K : PySem.W.Frag) : Sp := fun vs H Q _ => ∃ p dx : Addr, vs = [.ref p] ∧ H p = some (.ins (He.ga K "Registers") dx []) ∧ ∀ H' A, RegsNew K H H' p dx A → Q .non H'
def sp_Machine_init (K : PySem.W.Frag) : Sp := fun vs H Q _ => ∃ p dx : Addr, vs = [.ref p] ∧ H p = some (.ins (He.ga K "Machine") dx []) ∧
  ∀ H' A, Mach K H' A start0 → A.m = p → (∀ b o, H b = some o → b ≠ p → H' b = some o) → (∀ b, A.own b → b = p ∨ H b = none) → Q .non H'
end Wd
set_option Elab.async false
set_option linter.all false
set_option maxRecDepth 100000
set_option maxHeartbeats 4000000
namespace Wd
open PySem PySem.Spec PyProof.Rows L2
/-! ### registers and machines: scopes, readings, bodies (printed by genwalk.py) -/
section
variable {P : Program} {w : World} {K : PySem.W.Frag} {mg : Str → Option Value} {base : Heap}
theorem sc_Registers_row_of : FnScope ["self", "k"] ["self", "k"] (defScope s_Registers_row_of) := ⟨rfl, rfl, rfl, by decide +kernel, rfl, by decide +kernel, by decide +kernel⟩
def t_Registers_row_of (K : PySem.W.Frag) (E : XK) : TS :=
  (tSeq (tIfS (tTest (tOp rLtB (tVar 1) (tOp rMulI (tC (.int 3)) (tC (.int 8))))) (tRet (tOp (rIxL K) (tFld K (tVar 0) "windows") (tFld K (tVar 0) "window"))) tNext)
    (tRet (tOp (rIxL K) (tFld K (tVar 0) "windows") (tOp rModI (tOp rAddI (tFld K (tVar 0) "window") (tC (.int 1))) (tC (.int 8))))))
theorem ok_Registers_row_of (T : Txt K mg)  (len : ∀ vs H Q E, sp_Registers_row_of K vs H Q E → vs.length = 2)
    (pure : ∀ vs H Q E, sp_Registers_row_of K vs H Q E → t_Registers_row_of K E { nx := fun _ H' => Q .non H', rt := Q } (start ["self", "k"] vs) H) : MethG P w K mg base CX0 1 (He.ga K "Registers") "row_of" ["self", "k"] (sp_Registers_row_of K) := by
  obtain ⟨fd, F⟩ := T.d_Registers_row_of
  refine ⟨_, fd, F.ok sc_Registers_row_of len (fun cdv A outer s H vs Q E hr h => ⟨t_Registers_row_of K E, ?_, pure vs H Q E h⟩), T.m_Registers_row_of, F.bindsN fun _ _ _ _ _ _ us hl => match us, hl with | [_, _], _ => rfl⟩
  exact PSs.nox (pss_cons (ps_if (pt_cmpR op_lt (pv 1) (pe_op op_mul pe_int (pgi T.i_EIGHT)) (nomark _)) (pss_one (ps_ret (pe_ix ix_list (pe_fld (pv 0) rfl) (pe_fld (pv 0) rfl) (fun _ _ => rfl)))) pss_nil)
      (pss_one (ps_ret (pe_ix ix_list (pe_fld (pv 0) rfl) (pe_op op_mod (pe_op op_add (pe_fld (pv 0) rfl) pe_int) (pgi T.i_WINDOWS)) (fun _ _ => rfl)))))
theorem sc_Registers_place_of : FnScope ["self", "k"] ["self", "k"] (defScope s_Registers_place_of) := ⟨rfl, rfl, rfl, by decide +kernel, rfl, by decide +kernel, by decide +kernel⟩
def t_Registers_place_of (K : PySem.W.Frag) (E : XK) : TS :=
  (tSeq (tIfS (tTest (tOp rLtB (tVar 1) (tOp rMulI (tC (.int 3)) (tC (.int 8))))) (tRet (tOp rSubI (tVar 1) (tC (.int 8)))) tNext)
    (tRet (tOp rSubI (tVar 1) (tOp rMulI (tC (.int 3)) (tC (.int 8))))))
theorem ok_Registers_place_of (T : Txt K mg)  (len : ∀ vs H Q E, sp_Registers_place_of K vs H Q E → vs.length = 2)
    (pure : ∀ vs H Q E, sp_Registers_place_of K vs H Q E → t_Registers_place_of K E { nx := fun _ H' => Q .non H', rt := Q } (start ["self", "k"] vs) H) : MethG P w K mg base CX0 1 (He.ga K "Registers") "place_of" ["self", "k"] (sp_Registers_place_of K) := by
  obtain ⟨fd, F⟩ := T.d_Registers_place_of
  refine ⟨_, fd, F.ok sc_Registers_place_of len (fun cdv A outer s H vs Q E hr h => ⟨t_Registers_place_of K E, ?_, pure vs H Q E h⟩), T.m_Registers_place_of, F.bindsN fun _ _ _ _ _ _ us hl => match us, hl with | [_, _], _ => rfl⟩
  exact PSs.nox (pss_cons (ps_if (pt_cmpR op_lt (pv 1) (pe_op op_mul pe_int (pgi T.i_EIGHT)) (nomark _)) (pss_one (ps_ret (pe_op op_sub (pv 1) (pgi T.i_EIGHT)))) pss_nil)
      (pss_one (ps_ret (pe_op op_sub (pv 1) (pe_op op_mul pe_int (pgi T.i_EIGHT))))))
theorem sc_Registers_read : FnScope ["self", "k"] ["self", "k"] (defScope s_Registers_read) := ⟨rfl, rfl, rfl, by decide +kernel, rfl, by decide +kernel, by decide +kernel⟩
def t_Registers_read (K : PySem.W.Frag) (E : XK) : TS :=
  (tSeq (tIfS (tTest (tOp rLtB (tVar 1) (tC (.int 8)))) (tRet (tOp (rIxL K) (tFld K (tVar 0) "shared") (tVar 1))) tNext)
    (tRet (tOp (rIxL K) (tMeth (He.ga K "Registers") "row_of" (sp_Registers_row_of K) [] E0 (tVar 0) (tCons (tVar 1) tNil)) (tMeth (He.ga K "Registers") "place_of" (sp_Registers_place_of K) [] E0 (tVar 0) (tCons (tVar 1) tNil)))))
theorem ok_Registers_read (T : Txt K mg) (G_Registers_row_of : MethG P w K mg base CX0 1 (He.ga K "Registers") "row_of" ["self", "k"] (sp_Registers_row_of K)) (G_Registers_place_of : MethG P w K mg base CX0 1 (He.ga K "Registers") "place_of" ["self", "k"] (sp_Registers_place_of K)) (len : ∀ vs H Q E, sp_Registers_read K vs H Q E → vs.length = 2)
    (pure : ∀ vs H Q E, sp_Registers_read K vs H Q E → t_Registers_read K E { nx := fun _ H' => Q .non H', rt := Q } (start ["self", "k"] vs) H) : MethG P w K mg base CX0 2 (He.ga K "Registers") "read" ["self", "k"] (sp_Registers_read K) := by
  obtain ⟨fd, F⟩ := T.d_Registers_read
  refine ⟨_, fd, F.ok sc_Registers_read len (fun cdv A outer s H vs Q E hr h => ⟨t_Registers_read K E, ?_, pure vs H Q E h⟩), T.m_Registers_read, F.bindsN fun _ _ _ _ _ _ us hl => match us, hl with | [_, _], _ => rfl⟩
  exact PSs.nox (pss_cons (ps_if (pt_cmpR op_lt (pv 1) (pgi T.i_EIGHT) (nomark _)) (pss_one (ps_ret (pe_ix ix_list (pe_fld (pv 0) rfl) (pv 1) (fun _ _ => rfl)))) pss_nil)
      (pss_one (ps_ret (pe_ix ix_list (pm G_Registers_row_of T.cl_Registers (hr.mono (by decide)) pass0 (pv 0) (by exact (pa_cons (pv 1) pa_nil))) (pm G_Registers_place_of T.cl_Registers (hr.mono (by decide)) pass0 (pv 0) (by exact (pa_cons (pv 1) pa_nil))) (fun _ _ => rfl)))))
theorem sc_Registers_write : FnScope ["self", "k", "word", "row"] ["self", "k", "word"] (defScope s_Registers_write) := ⟨rfl, rfl, rfl, by decide +kernel, rfl, by decide +kernel, by decide +kernel⟩
def t_Registers_write (K : PySem.W.Frag) (E : XK) : TS :=
  (tIfS (tTest (tOp rGeB (tVar 1) (tC (.int 8)))) (tSeq (tAsg (tMeth (He.ga K "Registers") "row_of" (sp_Registers_row_of K) [] E0 (tVar 0) (tCons (tVar 1) tNil)) (gName 3))
    (tAsg (tOp rModI (tVar 2) (tC (.int 4294967296))) (gSub (tVar 3) (tMeth (He.ga K "Registers") "place_of" (sp_Registers_place_of K) [] E0 (tVar 0) (tCons (tVar 1) tNil)) rSetL))) (tIfS (tTest (tOp rGtB (tVar 1) (tC (.int 0)))) (tAsg (tOp rModI (tVar 2) (tC (.int 4294967296))) (gSub (tFld K (tVar 0) "shared") (tVar 1) rSetL)) tNext))
theorem ok_Registers_write (T : Txt K mg) (G_Registers_place_of : MethG P w K mg base CX0 1 (He.ga K "Registers") "place_of" ["self", "k"] (sp_Registers_place_of K)) (G_Registers_row_of : MethG P w K mg base CX0 1 (He.ga K "Registers") "row_of" ["self", "k"] (sp_Registers_row_of K)) (len : ∀ vs H Q E, sp_Registers_write K vs H Q E → vs.length = 3)
    (pure : ∀ vs H Q E, sp_Registers_write K vs H Q E → t_Registers_write K E { nx := fun _ H' => Q .non H', rt := Q } (start ["self", "k", "word", "row"] vs) H) : MethG P w K mg base CX0 2 (He.ga K "Registers") "write" ["self", "k", "word"] (sp_Registers_write K) := by
  obtain ⟨fd, F⟩ := T.d_Registers_write
  refine ⟨_, fd, F.ok sc_Registers_write len (fun cdv A outer s H vs Q E hr h => ⟨t_Registers_write K E, ?_, pure vs H Q E h⟩), T.m_Registers_write, F.bindsN fun _ _ _ _ _ _ us hl => match us, hl with | [_, _, _], _ => rfl⟩
  exact PSs.nox (pss_one (ps_if (pt_cmpR op_ge (pv 1) (pgi T.i_EIGHT) (nomark _)) (pss_cons (ps_set (i := 3) sc_Registers_write.nd rfl (Or.inl rfl) (pm G_Registers_row_of T.cl_Registers (hr.mono (by decide)) pass0 (pv 0) (by exact (pa_cons (pv 1) pa_nil))))
      (pss_one (ps_asg (pe_op op_mod (pv 2) (pgi T.i_WORD)) (pg_sub (pv 3) (pm G_Registers_place_of T.cl_Registers (hr.mono (by decide)) pass0 (pv 0) (by exact (pa_cons (pv 1) pa_nil))) set_list)))) (pss_one (ps_if (pt_cmpR op_gt (pv 1) pe_int (nomark _)) (pss_one (ps_asg (pe_op op_mod (pv 2) (pgi T.i_WORD)) (pg_sub (pe_fld (pv 0) rfl) (pv 1) set_list))) pss_nil))))
theorem sc_Registers_set_window : FnScope ["self", "window"] ["self", "window"] (defScope s_Registers_set_window) := ⟨rfl, rfl, rfl, by decide +kernel, rfl, by decide +kernel, by decide +kernel⟩
def t_Registers_set_window (K : PySem.W.Frag) (E : XK) : TS :=
  (sFld K (tVar 0) (tOp rModI (tVar 1) (tC (.int 8))) "window")
theorem ok_Registers_set_window (T : Txt K mg)  (len : ∀ vs H Q E, sp_Registers_set_window K vs H Q E → vs.length = 2)
    (pure : ∀ vs H Q E, sp_Registers_set_window K vs H Q E → t_Registers_set_window K E { nx := fun _ H' => Q .non H', rt := Q } (start ["self", "window"] vs) H) : MethG P w K mg base CX0 1 (He.ga K "Registers") "set_window" ["self", "window"] (sp_Registers_set_window K) := by
  obtain ⟨fd, F⟩ := T.d_Registers_set_window
  refine ⟨_, fd, F.ok sc_Registers_set_window len (fun cdv A outer s H vs Q E hr h => ⟨t_Registers_set_window K E, ?_, pure vs H Q E h⟩), T.m_Registers_set_window, F.bindsN fun _ _ _ _ _ _ us hl => match us, hl with | [_, _], _ => rfl⟩
  exact PSs.nox (pss_one (ps_fld (pv 0) (pe_op op_mod (pv 1) (pgi T.i_WINDOWS)) rfl))
theorem sc_Registers_set_mask : FnScope ["self", "mask"] ["self", "mask"] (defScope s_Registers_set_mask) := ⟨rfl, rfl, rfl, by decide +kernel, rfl, by decide +kernel, by decide +kernel⟩
def t_Registers_set_mask (K : PySem.W.Frag) (E : XK) : TS :=
  (sFld K (tVar 0) (tVar 1) "mask")
theorem ok_Registers_set_mask (T : Txt K mg)  (len : ∀ vs H Q E, sp_Registers_set_mask K vs H Q E → vs.length = 2)
    (pure : ∀ vs H Q E, sp_Registers_set_mask K vs H Q E → t_Registers_set_mask K E { nx := fun _ H' => Q .non H', rt := Q } (start ["self", "mask"] vs) H) : MethG P w K mg base CX0 1 (He.ga K "Registers") "set_mask" ["self", "mask"] (sp_Registers_set_mask K) := by
  obtain ⟨fd, F⟩ := T.d_Registers_set_mask
  refine ⟨_, fd, F.ok sc_Registers_set_mask len (fun cdv A outer s H vs Q E hr h => ⟨t_Registers_set_mask K E, ?_, pure vs H Q E h⟩), T.m_Registers_set_mask, F.bindsN fun _ _ _ _ _ _ us hl => match us, hl with | [_, _], _ => rfl⟩
  exact PSs.nox (pss_one (ps_fld (pv 0) (pv 1) rfl))
theorem sc_Registers_is_barred : FnScope ["self", "window"] ["self", "window"] (defScope s_Registers_is_barred) := ⟨rfl, rfl, rfl, by decide +kernel, rfl, by decide +kernel, by decide +kernel⟩
def t_Registers_is_barred (K : PySem.W.Frag) (E : XK) : TS :=
  (tRet (tOp rEq (tOp rModI (tOp rShrI (tFld K (tVar 0) "mask") (tOp rModI (tVar 1) (tC (.int 8)))) (tC (.int 2))) (tC (.int 1))))
theorem ok_Registers_is_barred (T : Txt K mg)  (len : ∀ vs H Q E, sp_Registers_is_barred K vs H Q E → vs.length = 2)
    (pure : ∀ vs H Q E, sp_Registers_is_barred K vs H Q E → t_Registers_is_barred K E { nx := fun _ H' => Q .non H', rt := Q } (start ["self", "window"] vs) H) : MethG P w K mg base CX0 1 (He.ga K "Registers") "is_barred" ["self", "window"] (sp_Registers_is_barred K) := by
  obtain ⟨fd, F⟩ := T.d_Registers_is_barred
  refine ⟨_, fd, F.ok sc_Registers_is_barred len (fun cdv A outer s H vs Q E hr h => ⟨t_Registers_is_barred K E, ?_, pure vs H Q E h⟩), T.m_Registers_is_barred, F.bindsN fun _ _ _ _ _ _ us hl => match us, hl with | [_, _], _ => rfl⟩
  exact PSs.nox (pss_one (ps_ret (pe_cmpR op_eq (pe_op op_mod (pe_op op_shr (pe_fld (pv 0) rfl) (pe_op op_mod (pv 1) (pgi T.i_WINDOWS))) pe_int) pe_int (nomark _))))
theorem sc_Machine_init : FnScope ["self"] ["self"] (defScope s_Machine_init) := ⟨rfl, rfl, rfl, by decide +kernel, rfl, by decide +kernel, by decide +kernel⟩
def t_Machine_init (K : PySem.W.Frag) (E : XK) : TS :=
  (tSeq (sFld K (tVar 0) (tMake (He.ga K "Registers") (sp_Registers_init K) [] E0 tNil) "registers")
    (tSeq (sFld K (tVar 0) (tC (.int 0)) "y")
    (tSeq (sFld K (tVar 0) (tMake (He.ga K "Conditions") (sp_Conditions_init K) [] E0 (tCons (tC (.bl false)) (tCons (tC (.bl false)) (tCons (tC (.bl false)) (tCons (tC (.bl false)) tNil))))) "conditions")
    (tSeq (sFld K (tVar 0) (tC (.int 0)) "place")
    (tSeq (sFld K (tVar 0) (tC (.int 4)) "after")
    (sFld K (tVar 0) (tOp rRep (tLst (tCons (tC (.int 0)) tNil)) (tC (.int 65536))) "memory"))))))
theorem ok_Machine_init (T : Txt K mg) (G_new_Conditions : MakeG P w K mg base CX0 1 "Conditions" (He.ga K "Conditions") ["self", "n", "z", "v", "c"] (sp_Conditions_init K)) (G_new_Registers : MakeG P w K mg base CX0 1 "Registers" (He.ga K "Registers") ["self"] (sp_Registers_init K)) (len : ∀ vs H Q E, sp_Machine_init K vs H Q E → vs.length = 1)
    (pure : ∀ vs H Q E, sp_Machine_init K vs H Q E → t_Machine_init K E { nx := fun _ H' => Q .non H', rt := Q } (start ["self"] vs) H) : MakeG P w K mg base CX0 3 "Machine" (He.ga K "Machine") ["self"] (sp_Machine_init K) := by
  obtain ⟨fd, F⟩ := T.d_Machine_init
  refine ⟨_, fd, F.ok sc_Machine_init len (fun cdv A outer s H vs Q E hr h => ⟨t_Machine_init K E, ?_, pure vs H Q E h⟩), T.mk_Machine, T.g_Machine, F.bindsN fun _ _ _ _ _ _ us hl => match us, hl with | [_], _ => rfl⟩
  exact PSs.nox (pss_cons (ps_fld (pv 0) (pk0 G_new_Registers (hr.mono (by decide)) pass0) rfl)
      (pss_cons (ps_fld (pv 0) pe_int rfl)
      (pss_cons (ps_fld (pv 0) (pk G_new_Conditions (hr.mono (by decide)) pass0 (by exact (pa_cons pe_bl (pa_cons pe_bl (pa_cons pe_bl (pa_cons pe_bl pa_nil)))))) rfl)
      (pss_cons (ps_fld (pv 0) pe_int rfl)
      (pss_cons (ps_fld (pv 0) pe_int rfl)
      (pss_one (ps_fld (pv 0) (pe_op op_rep (pe_lst (pa_cons pe_int pa_nil)) (pgi T.i_MEMORY)) rfl)))))))
theorem sc_Machine_set_memory : FnScope ["self", "row"] ["self", "row"] (defScope s_Machine_set_memory) := ⟨rfl, rfl, rfl, by decide +kernel, rfl, by decide +kernel, by decide +kernel⟩
def t_Machine_set_memory (K : PySem.W.Frag) (E : XK) : TS :=
  (sFld K (tVar 0) (tOp rCat (tVar 1) (tOp rRep (tLst (tCons (tC (.int 0)) tNil)) (tOp rSubI (tC (.int 65536)) (tCB (rLenL K) (tCons (tVar 1) tNil))))) "memory")
theorem ok_Machine_set_memory (T : Txt K mg)  (len : ∀ vs H Q E, sp_Machine_set_memory K vs H Q E → vs.length = 2)
    (pure : ∀ vs H Q E, sp_Machine_set_memory K vs H Q E → t_Machine_set_memory K E { nx := fun _ H' => Q .non H', rt := Q } (start ["self", "row"] vs) H) : MethG P w K mg base CX0 1 (He.ga K "Machine") "set_memory" ["self", "row"] (sp_Machine_set_memory K) := by
  obtain ⟨fd, F⟩ := T.d_Machine_set_memory
  refine ⟨_, fd, F.ok sc_Machine_set_memory len (fun cdv A outer s H vs Q E hr h => ⟨t_Machine_set_memory K E, ?_, pure vs H Q E h⟩), T.m_Machine_set_memory, F.bindsN fun _ _ _ _ _ _ us hl => match us, hl with | [_, _], _ => rfl⟩
  exact PSs.nox (pss_one (ps_fld (pv 0) (pe_op op_cat (pv 1) (pe_op op_rep (pe_lst (pa_cons pe_int pa_nil)) (pe_op op_sub (pgi T.i_MEMORY) (pe_callB call_len_seq (by rfl) T.f_len PySem.boot_len (by exact (pa_cons (pv 1) pa_nil)))))) rfl))
theorem sc_Machine_set_y : FnScope ["self", "word"] ["self", "word"] (defScope s_Machine_set_y) := ⟨rfl, rfl, rfl, by decide +kernel, rfl, by decide +kernel, by decide +kernel⟩
def t_Machine_set_y (K : PySem.W.Frag) (E : XK) : TS :=
  (sFld K (tVar 0) (tVar 1) "y")
theorem ok_Machine_set_y (T : Txt K mg)  (len : ∀ vs H Q E, sp_Machine_set_y K vs H Q E → vs.length = 2)
    (pure : ∀ vs H Q E, sp_Machine_set_y K vs H Q E → t_Machine_set_y K E { nx := fun _ H' => Q .non H', rt := Q } (start ["self", "word"] vs) H) : MethG P w K mg base CX0 1 (He.ga K "Machine") "set_y" ["self", "word"] (sp_Machine_set_y K) := by
  obtain ⟨fd, F⟩ := T.d_Machine_set_y
  refine ⟨_, fd, F.ok sc_Machine_set_y len (fun cdv A outer s H vs Q E hr h => ⟨t_Machine_set_y K E, ?_, pure vs H Q E h⟩), T.m_Machine_set_y, F.bindsN fun _ _ _ _ _ _ us hl => match us, hl with | [_, _], _ => rfl⟩
  exact PSs.nox (pss_one (ps_fld (pv 0) (pv 1) rfl))
theorem sc_Machine_set_conditions : FnScope ["self", "conditions"] ["self", "conditions"] (defScope s_Machine_set_conditions) := ⟨rfl, rfl, rfl, by decide +kernel, rfl, by decide +kernel, by decide +kernel⟩
def t_Machine_set_conditions (K : PySem.W.Frag) (E : XK) : TS :=
  (sFld K (tVar 0) (tVar 1) "conditions")
theorem ok_Machine_set_conditions (T : Txt K mg)  (len : ∀ vs H Q E, sp_Machine_set_conditions K vs H Q E → vs.length = 2)
    (pure : ∀ vs H Q E, sp_Machine_set_conditions K vs H Q E → t_Machine_set_conditions K E { nx := fun _ H' => Q .non H', rt := Q } (start ["self", "conditions"] vs) H) : MethG P w K mg base CX0 1 (He.ga K "Machine") "set_conditions" ["self", "conditions"] (sp_Machine_set_conditions K) := by
  obtain ⟨fd, F⟩ := T.d_Machine_set_conditions
  refine ⟨_, fd, F.ok sc_Machine_set_conditions len (fun cdv A outer s H vs Q E hr h => ⟨t_Machine_set_conditions K E, ?_, pure vs H Q E h⟩), T.m_Machine_set_conditions, F.bindsN fun _ _ _ _ _ _ us hl => match us, hl with | [_, _], _ => rfl⟩
  exact PSs.nox (pss_one (ps_fld (pv 0) (pv 1) rfl))
theorem sc_Machine_set_places : FnScope ["self", "place", "after"] ["self", "place", "after"] (defScope s_Machine_set_places) := ⟨rfl, rfl, rfl, by decide +kernel, rfl, by decide +kernel, by decide +kernel⟩
def t_Machine_set_places (K : PySem.W.Frag) (E : XK) : TS :=
  (tSeq (sFld K (tVar 0) (tOp rModI (tVar 1) (tC (.int 4294967296))) "place")
    (sFld K (tVar 0) (tOp rModI (tVar 2) (tC (.int 4294967296))) "after"))
theorem ok_Machine_set_places (T : Txt K mg)  (len : ∀ vs H Q E, sp_Machine_set_places K vs H Q E → vs.length = 3)
    (pure : ∀ vs H Q E, sp_Machine_set_places K vs H Q E → t_Machine_set_places K E { nx := fun _ H' => Q .non H', rt := Q } (start ["self", "place", "after"] vs) H) : MethG P w K mg base CX0 1 (He.ga K "Machine") "set_places" ["self", "place", "after"] (sp_Machine_set_places K) := by
  obtain ⟨fd, F⟩ := T.d_Machine_set_places
  refine ⟨_, fd, F.ok sc_Machine_set_places len (fun cdv A outer s H vs Q E hr h => ⟨t_Machine_set_places K E, ?_, pure vs H Q E h⟩), T.m_Machine_set_places, F.bindsN fun _ _ _ _ _ _ us hl => match us, hl with | [_, _, _], _ => rfl⟩
  exact PSs.nox (pss_cons (ps_fld (pv 0) (pe_op op_mod (pv 1) (pgi T.i_WORD)) rfl)
      (pss_one (ps_fld (pv 0) (pe_op op_mod (pv 2) (pgi T.i_WORD)) rfl)))
theorem sc_Machine_go_on : FnScope ["self"] ["self"] (defScope s_Machine_go_on) := ⟨rfl, rfl, rfl, by decide +kernel, rfl, by decide +kernel, by decide +kernel⟩
def t_Machine_go_on (K : PySem.W.Frag) (E : XK) : TS :=
  (tDrop (tMeth (He.ga K "Machine") "set_places" (sp_Machine_set_places K) [] E0 (tVar 0) (tCons (tFld K (tVar 0) "after") (tCons (tOp rAddI (tFld K (tVar 0) "after") (tC (.int 4))) tNil))))
theorem ok_Machine_go_on (T : Txt K mg) (G_Machine_set_places : MethG P w K mg base CX0 1 (He.ga K "Machine") "set_places" ["self", "place", "after"] (sp_Machine_set_places K)) (len : ∀ vs H Q E, sp_Machine_go_on K vs H Q E → vs.length = 1)
    (pure : ∀ vs H Q E, sp_Machine_go_on K vs H Q E → t_Machine_go_on K E { nx := fun _ H' => Q .non H', rt := Q } (start ["self"] vs) H) : MethG P w K mg base CX0 2 (He.ga K "Machine") "go_on" ["self"] (sp_Machine_go_on K) := by
  obtain ⟨fd, F⟩ := T.d_Machine_go_on
  refine ⟨_, fd, F.ok sc_Machine_go_on len (fun cdv A outer s H vs Q E hr h => ⟨t_Machine_go_on K E, ?_, pure vs H Q E h⟩), T.m_Machine_go_on, F.bindsN fun _ _ _ _ _ _ us hl => match us, hl with | [_], _ => rfl⟩
  exact PSs.nox (pss_one (ps_expr (pm G_Machine_set_places T.cl_Machine (hr.mono (by decide)) pass0 (pv 0) (by exact (pa_cons (pe_fld (pv 0) rfl) (pa_cons (pe_op op_add (pe_fld (pv 0) rfl) pe_int) pa_nil))))))
theorem sc_Machine_jump : FnScope ["self", "place"] ["self", "place"] (defScope s_Machine_jump) := ⟨rfl, rfl, rfl, by decide +kernel, rfl, by decide +kernel, by decide +kernel⟩
def t_Machine_jump (K : PySem.W.Frag) (E : XK) : TS :=
  (tDrop (tMeth (He.ga K "Machine") "set_places" (sp_Machine_set_places K) [] E0 (tVar 0) (tCons (tFld K (tVar 0) "after") (tCons (tVar 1) tNil))))
theorem ok_Machine_jump (T : Txt K mg) (G_Machine_set_places : MethG P w K mg base CX0 1 (He.ga K "Machine") "set_places" ["self", "place", "after"] (sp_Machine_set_places K)) (len : ∀ vs H Q E, sp_Machine_jump K vs H Q E → vs.length = 2)
    (pure : ∀ vs H Q E, sp_Machine_jump K vs H Q E → t_Machine_jump K E { nx := fun _ H' => Q .non H', rt := Q } (start ["self", "place"] vs) H) : MethG P w K mg base CX0 2 (He.ga K "Machine") "jump" ["self", "place"] (sp_Machine_jump K) := by
  obtain ⟨fd, F⟩ := T.d_Machine_jump
  refine ⟨_, fd, F.ok sc_Machine_jump len (fun cdv A outer s H vs Q E hr h => ⟨t_Machine_jump K E, ?_, pure vs H Q E h⟩), T.m_Machine_jump, F.bindsN fun _ _ _ _ _ _ us hl => match us, hl with | [_, _], _ => rfl⟩
  exact PSs.nox (pss_one (ps_expr (pm G_Machine_set_places T.cl_Machine (hr.mono (by decide)) pass0 (pv 0) (by exact (pa_cons (pe_fld (pv 0) rfl) (pa_cons (pv 1) pa_nil))))))
theorem sc_Machine_number_at : FnScope ["self", "at", "many", "found", "byte"] ["self", "at", "many"] (defScope s_Machine_number_at) := ⟨rfl, rfl, rfl, by decide +kernel, rfl, by decide +kernel, by decide +kernel⟩
def t_Machine_number_at (K : PySem.W.Frag) (E : XK) : TS :=
  (tSeq (tAsg (tC (.int 0)) (gName 3))
    (tSeq (tFor (iList K (tSl (rSlL K) (tFld K (tVar 0) "memory") (tPart (tVar 1)) (tPart (tOp rAddI (tVar 1) (tVar 2))))) (gName 4) (tAsg (tOp rAddI (tOp rMulI (tC (.int 256)) (tVar 3)) (tVar 4)) (gName 3)))
    (tRet (tVar 3))))
theorem ok_Machine_number_at (T : Txt K mg)  (len : ∀ vs H Q E, sp_Machine_number_at K vs H Q E → vs.length = 3)
    (pure : ∀ vs H Q E, sp_Machine_number_at K vs H Q E → t_Machine_number_at K E { nx := fun _ H' => Q .non H', rt := Q } (start ["self", "at", "many", "found", "byte"] vs) H) : MethG P w K mg base CX0 1 (He.ga K "Machine") "number_at" ["self", "at", "many"] (sp_Machine_number_at K) := by
  obtain ⟨fd, F⟩ := T.d_Machine_number_at
  refine ⟨_, fd, F.ok sc_Machine_number_at len (fun cdv A outer s H vs Q E hr h => ⟨t_Machine_number_at K E, ?_, pure vs H Q E h⟩), T.m_Machine_number_at, F.bindsN fun _ _ _ _ _ _ us hl => match us, hl with | [_, _, _], _ => rfl⟩
  exact PSs.nox (pss_cons (ps_set (i := 3) sc_Machine_number_at.nd rfl (Or.inl rfl) pe_int)
      (pss_cons (ps_for PassesOwn.never rfl (pi_list (pe_slice sl_list (pe_fld (pv 0) rfl) (po_some (pv 1)) (po_some (pe_op op_add (pv 1) (pv 2))))) (pg_name (i := 4) sc_Machine_number_at.nd rfl (Or.inl rfl)) (pss_one (ps_set (i := 3) sc_Machine_number_at.nd rfl (Or.inl rfl) (pe_op op_add (pe_op op_mul pe_int (pv 3)) (pv 4)))))
      (pss_one (ps_ret (pv 3)))))
theorem sc_Machine_put : FnScope ["self", "at", "many", "number", "k"] ["self", "at", "many", "number"] (defScope s_Machine_put) := ⟨rfl, rfl, rfl, by decide +kernel, rfl, by decide +kernel, by decide +kernel⟩
def t_Machine_put (K : PySem.W.Frag) (E : XK) : TS :=
  (tFor (iRng1 (tCons (tVar 2) tNil)) (gName 4) (tAsg (tOp rModI (tOp rShrI (tVar 3) (tOp rMulI (tC (.int 8)) (tOp rSubI (tOp rSubI (tVar 2) (tC (.int 1))) (tVar 4)))) (tC (.int 256))) (gSub (tFld K (tVar 0) "memory") (tOp rAddI (tVar 1) (tVar 4)) rSetL)))
theorem ok_Machine_put (T : Txt K mg)  (len : ∀ vs H Q E, sp_Machine_put K vs H Q E → vs.length = 4)
    (pure : ∀ vs H Q E, sp_Machine_put K vs H Q E → t_Machine_put K E { nx := fun _ H' => Q .non H', rt := Q } (start ["self", "at", "many", "number", "k"] vs) H) : MethG P w K mg base CX0 1 (He.ga K "Machine") "put" ["self", "at", "many", "number"] (sp_Machine_put K) := by
  obtain ⟨fd, F⟩ := T.d_Machine_put
  refine ⟨_, fd, F.ok sc_Machine_put len (fun cdv A outer s H vs Q E hr h => ⟨t_Machine_put K E, ?_, pure vs H Q E h⟩), T.m_Machine_put, F.bindsN fun _ _ _ _ _ _ us hl => match us, hl with | [_, _, _, _], _ => rfl⟩
  exact PSs.nox (pss_one (ps_for PassesOwn.never rfl (pi_range1 (by rfl) T.f_range (pa_cons (pv 2) pa_nil)) (pg_name (i := 4) sc_Machine_put.nd rfl (Or.inl rfl)) (pss_one (ps_asg (pe_op op_mod (pe_op op_shr (pv 3) (pe_op op_mul pe_int (pe_op op_sub (pe_op op_sub (pv 2) pe_int) (pv 4)))) pe_int) (pg_sub (pe_fld (pv 0) rfl) (pe_op op_add (pv 1) (pv 4)) set_list)))))
theorem sc_Machine_second : FnScope ["self", "ins"] ["self", "ins"] (defScope s_Machine_second) := ⟨rfl, rfl, rfl, by decide +kernel, rfl, by decide +kernel, by decide +kernel⟩
def t_Machine_second (K : PySem.W.Frag) (E : XK) : TS :=
  (tSeq (tIfS (tTest (tOp rEq (tCall (sp_bits_of K) [] E0 (tCons (tVar 1) (tCons (tC (.int 13)) (tCons (tC (.int 1)) tNil)))) (tC (.int 1)))) (tRet (tOp rModI (tCall (sp_part_signed K) [] E0 (tCons (tCall (sp_bits_of K) [] E0 (tCons (tVar 1) (tCons (tC (.int 0)) (tCons (tC (.int 13)) tNil)))) (tCons (tC (.int 13)) tNil))) (tC (.int 4294967296)))) tNext)
    (tRet (tMeth (He.ga K "Registers") "read" (sp_Registers_read K) [] E0 (tFld K (tVar 0) "registers") (tCons (tCall (sp_bits_of K) [] E0 (tCons (tVar 1) (tCons (tC (.int 0)) (tCons (tC (.int 5)) tNil)))) tNil))))
theorem ok_Machine_second (T : Txt K mg) (G_bits_of : CallG P w K mg base CX0 1 "bits_of" ["word", "last", "many"] (sp_bits_of K)) (G_Registers_read : MethG P w K mg base CX0 2 (He.ga K "Registers") "read" ["self", "k"] (sp_Registers_read K)) (G_part_signed : CallG P w K mg base CX0 1 "part_signed" ["part", "bits"] (sp_part_signed K)) (len : ∀ vs H Q E, sp_Machine_second K vs H Q E → vs.length = 2)
    (pure : ∀ vs H Q E, sp_Machine_second K vs H Q E → t_Machine_second K E { nx := fun _ H' => Q .non H', rt := Q } (start ["self", "ins"] vs) H) : MethG P w K mg base CX0 3 (He.ga K "Machine") "second" ["self", "ins"] (sp_Machine_second K) := by
  obtain ⟨fd, F⟩ := T.d_Machine_second
  refine ⟨_, fd, F.ok sc_Machine_second len (fun cdv A outer s H vs Q E hr h => ⟨t_Machine_second K E, ?_, pure vs H Q E h⟩), T.m_Machine_second, F.bindsN fun _ _ _ _ _ _ us hl => match us, hl with | [_, _], _ => rfl⟩
  exact PSs.nox (pss_cons (ps_if (pt_cmpR op_eq (pc G_bits_of (hr.mono (by decide)) pass0 (by exact (pa_cons (pv 1) (pa_cons pe_int (pa_cons pe_int pa_nil))))) pe_int (nomark _)) (pss_one (ps_ret (pe_op op_mod (pc G_part_signed (hr.mono (by decide)) pass0 (by exact (pa_cons (pc G_bits_of (hr.mono (by decide)) pass0 (by exact (pa_cons (pv 1) (pa_cons pe_int (pa_cons pe_int pa_nil))))) (pa_cons pe_int pa_nil)))) (pgi T.i_WORD)))) pss_nil)
      (pss_one (ps_ret (pm G_Registers_read T.cl_Registers (hr.mono (by decide)) pass0 (pe_fld (pv 0) rfl) (by exact (pa_cons (pc G_bits_of (hr.mono (by decide)) pass0 (by exact (pa_cons (pv 1) (pa_cons pe_int (pa_cons pe_int pa_nil))))) pa_nil))))))
theorem sc_Machine_first : FnScope ["self", "ins"] ["self", "ins"] (defScope s_Machine_first) := ⟨rfl, rfl, rfl, by decide +kernel, rfl, by decide +kernel, by decide +kernel⟩
def t_Machine_first (K : PySem.W.Frag) (E : XK) : TS :=
  (tRet (tMeth (He.ga K "Registers") "read" (sp_Registers_read K) [] E0 (tFld K (tVar 0) "registers") (tCons (tCall (sp_bits_of K) [] E0 (tCons (tVar 1) (tCons (tC (.int 14)) (tCons (tC (.int 5)) tNil)))) tNil)))
theorem ok_Machine_first (T : Txt K mg) (G_bits_of : CallG P w K mg base CX0 1 "bits_of" ["word", "last", "many"] (sp_bits_of K)) (G_Registers_read : MethG P w K mg base CX0 2 (He.ga K "Registers") "read" ["self", "k"] (sp_Registers_read K)) (len : ∀ vs H Q E, sp_Machine_first K vs H Q E → vs.length = 2)
    (pure : ∀ vs H Q E, sp_Machine_first K vs H Q E → t_Machine_first K E { nx := fun _ H' => Q .non H', rt := Q } (start ["self", "ins"] vs) H) : MethG P w K mg base CX0 3 (He.ga K "Machine") "first" ["self", "ins"] (sp_Machine_first K) := by
  obtain ⟨fd, F⟩ := T.d_Machine_first
  refine ⟨_, fd, F.ok sc_Machine_first len (fun cdv A outer s H vs Q E hr h => ⟨t_Machine_first K E, ?_, pure vs H Q E h⟩), T.m_Machine_first, F.bindsN fun _ _ _ _ _ _ us hl => match us, hl with | [_, _], _ => rfl⟩
  exact PSs.nox (pss_one (ps_ret (pm G_Registers_read T.cl_Registers (hr.mono (by decide)) pass0 (pe_fld (pv 0) rfl) (by exact (pa_cons (pc G_bits_of (hr.mono (by decide)) pass0 (by exact (pa_cons (pv 1) (pa_cons pe_int (pa_cons pe_int pa_nil))))) pa_nil)))))
theorem sc_Machine_give : FnScope ["self", "ins", "word"] ["self", "ins", "word"] (defScope s_Machine_give) := ⟨rfl, rfl, rfl, by decide +kernel, rfl, by decide +kernel, by decide +kernel⟩
def t_Machine_give (K : PySem.W.Frag) (E : XK) : TS :=
  (tSeq (tDrop (tMeth (He.ga K "Registers") "write" (sp_Registers_write K) [] E0 (tFld K (tVar 0) "registers") (tCons (tCall (sp_bits_of K) [] E0 (tCons (tVar 1) (tCons (tC (.int 25)) (tCons (tC (.int 5)) tNil)))) (tCons (tVar 2) tNil))))
    (tDrop (tMeth (He.ga K "Machine") "go_on" (sp_Machine_go_on K) [] E0 (tVar 0) tNil)))
theorem ok_Machine_give (T : Txt K mg) (G_Machine_go_on : MethG P w K mg base CX0 2 (He.ga K "Machine") "go_on" ["self"] (sp_Machine_go_on K)) (G_bits_of : CallG P w K mg base CX0 1 "bits_of" ["word", "last", "many"] (sp_bits_of K)) (G_Registers_write : MethG P w K mg base CX0 2 (He.ga K "Registers") "write" ["self", "k", "word"] (sp_Registers_write K)) (len : ∀ vs H Q E, sp_Machine_give K vs H Q E → vs.length = 3)
    (pure : ∀ vs H Q E, sp_Machine_give K vs H Q E → t_Machine_give K E { nx := fun _ H' => Q .non H', rt := Q } (start ["self", "ins", "word"] vs) H) : MethG P w K mg base CX0 3 (He.ga K "Machine") "give" ["self", "ins", "word"] (sp_Machine_give K) := by
  obtain ⟨fd, F⟩ := T.d_Machine_give
  refine ⟨_, fd, F.ok sc_Machine_give len (fun cdv A outer s H vs Q E hr h => ⟨t_Machine_give K E, ?_, pure vs H Q E h⟩), T.m_Machine_give, F.bindsN fun _ _ _ _ _ _ us hl => match us, hl with | [_, _, _], _ => rfl⟩
  exact PSs.nox (pss_cons (ps_expr (pm G_Registers_write T.cl_Registers (hr.mono (by decide)) pass0 (pe_fld (pv 0) rfl) (by exact (pa_cons (pc G_bits_of (hr.mono (by decide)) pass0 (by exact (pa_cons (pv 1) (pa_cons pe_int (pa_cons pe_int pa_nil))))) (pa_cons (pv 2) pa_nil)))))
      (pss_one (ps_expr (pm0 G_Machine_go_on T.cl_Machine (hr.mono (by decide)) pass0 (pv 0)))))
theorem sc_Machine_call : FnScope ["self", "ins"] ["self", "ins"] (defScope s_Machine_call) := ⟨rfl, rfl, rfl, by decide +kernel, rfl, by decide +kernel, by decide +kernel⟩
def t_Machine_call (K : PySem.W.Frag) (E : XK) : TS :=
  (tSeq (tDrop (tMeth (He.ga K "Registers") "write" (sp_Registers_write K) [] E0 (tFld K (tVar 0) "registers") (tCons (tC (.int 15)) (tCons (tFld K (tVar 0) "place") tNil))))
    (tDrop (tMeth (He.ga K "Machine") "jump" (sp_Machine_jump K) [] E0 (tVar 0) (tCons (tOp rAddI (tFld K (tVar 0) "place") (tOp rMulI (tC (.int 4)) (tCall (sp_bits_of K) [] E0 (tCons (tVar 1) (tCons (tC (.int 0)) (tCons (tC (.int 30)) tNil)))))) tNil))))
theorem ok_Machine_call (T : Txt K mg) (G_bits_of : CallG P w K mg base CX0 1 "bits_of" ["word", "last", "many"] (sp_bits_of K)) (G_Machine_jump : MethG P w K mg base CX0 2 (He.ga K "Machine") "jump" ["self", "place"] (sp_Machine_jump K)) (G_Registers_write : MethG P w K mg base CX0 2 (He.ga K "Registers") "write" ["self", "k", "word"] (sp_Registers_write K)) (len : ∀ vs H Q E, sp_Machine_call K vs H Q E → vs.length = 2)
    (pure : ∀ vs H Q E, sp_Machine_call K vs H Q E → t_Machine_call K E { nx := fun _ H' => Q .non H', rt := Q } (start ["self", "ins"] vs) H) : MethG P w K mg base CX0 3 (He.ga K "Machine") "call" ["self", "ins"] (sp_Machine_call K) := by
  obtain ⟨fd, F⟩ := T.d_Machine_call
  refine ⟨_, fd, F.ok sc_Machine_call len (fun cdv A outer s H vs Q E hr h => ⟨t_Machine_call K E, ?_, pure vs H Q E h⟩), T.m_Machine_call, F.bindsN fun _ _ _ _ _ _ us hl => match us, hl with | [_, _], _ => rfl⟩
  exact PSs.nox (pss_cons (ps_expr (pm G_Registers_write T.cl_Registers (hr.mono (by decide)) pass0 (pe_fld (pv 0) rfl) (by exact (pa_cons (pgi T.i_BACK) (pa_cons (pe_fld (pv 0) rfl) pa_nil)))))
      (pss_one (ps_expr (pm G_Machine_jump T.cl_Machine (hr.mono (by decide)) pass0 (pv 0) (by exact (pa_cons (pe_op op_add (pe_fld (pv 0) rfl) (pe_op op_mul pe_int (pc G_bits_of (hr.mono (by decide)) pass0 (by exact (pa_cons (pv 1) (pa_cons pe_int (pa_cons pe_int pa_nil))))))) pa_nil))))))
theorem sc_Machine_branch : FnScope ["self", "ins", "condition", "passing", "place"] ["self", "ins"] (defScope s_Machine_branch) := ⟨rfl, rfl, rfl, by decide +kernel, rfl, by decide +kernel, by decide +kernel⟩
def t_Machine_branch (K : PySem.W.Frag) (E : XK) : TS :=
  (tSeq (tAsg (tCall (sp_bits_of K) [] E0 (tCons (tVar 1) (tCons (tC (.int 25)) (tCons (tC (.int 4)) tNil)))) (gName 2))
    (tSeq (tAsg (tOp rEq (tCall (sp_bits_of K) [] E0 (tCons (tVar 1) (tCons (tC (.int 29)) (tCons (tC (.int 1)) tNil)))) (tC (.int 1))) (gName 3))
    (tSeq (tAsg (tOp rAddI (tFld K (tVar 0) "place") (tOp rMulI (tC (.int 4)) (tCall (sp_part_signed K) [] E0 (tCons (tCall (sp_bits_of K) [] E0 (tCons (tVar 1) (tCons (tC (.int 0)) (tCons (tC (.int 22)) tNil)))) (tCons (tC (.int 22)) tNil))))) (gName 4))
    (tIfS (tB (tMeth (He.ga K "Conditions") "holds" (sp_Conditions_holds K) [] E0 (tFld K (tVar 0) "conditions") (tCons (tVar 2) tNil))) (tIfS (tAnd (tTest (tOp rEq (tVar 2) (tC (.int 8)))) (tB (tVar 3))) (tDrop (tMeth (He.ga K "Machine") "set_places" (sp_Machine_set_places K) [] E0 (tVar 0) (tCons (tVar 4) (tCons (tOp rAddI (tVar 4) (tC (.int 4))) tNil)))) (tDrop (tMeth (He.ga K "Machine") "jump" (sp_Machine_jump K) [] E0 (tVar 0) (tCons (tVar 4) tNil)))) (tIfS (tB (tVar 3)) (tDrop (tMeth (He.ga K "Machine") "set_places" (sp_Machine_set_places K) [] E0 (tVar 0) (tCons (tOp rAddI (tFld K (tVar 0) "after") (tC (.int 4))) (tCons (tOp rAddI (tFld K (tVar 0) "after") (tC (.int 8))) tNil)))) (tDrop (tMeth (He.ga K "Machine") "go_on" (sp_Machine_go_on K) [] E0 (tVar 0) tNil)))))))
theorem ok_Machine_branch (T : Txt K mg) (G_Conditions_holds : MethG P w K mg base CX0 2 (He.ga K "Conditions") "holds" ["self", "number"] (sp_Conditions_holds K)) (G_Machine_set_places : MethG P w K mg base CX0 1 (He.ga K "Machine") "set_places" ["self", "place", "after"] (sp_Machine_set_places K)) (G_Machine_jump : MethG P w K mg base CX0 2 (He.ga K "Machine") "jump" ["self", "place"] (sp_Machine_jump K)) (G_Machine_go_on : MethG P w K mg base CX0 2 (He.ga K "Machine") "go_on" ["self"] (sp_Machine_go_on K)) (G_bits_of : CallG P w K mg base CX0 1 "bits_of" ["word", "last", "many"] (sp_bits_of K)) (G_part_signed : CallG P w K mg base CX0 1 "part_signed" ["part", "bits"] (sp_part_signed K)) (len : ∀ vs H Q E, sp_Machine_branch K vs H Q E → vs.length = 2)
    (pure : ∀ vs H Q E, sp_Machine_branch K vs H Q E → t_Machine_branch K E { nx := fun _ H' => Q .non H', rt := Q } (start ["self", "ins", "condition", "passing", "place"] vs) H) : MethG P w K mg base CX0 3 (He.ga K "Machine") "branch" ["self", "ins"] (sp_Machine_branch K) := by
  obtain ⟨fd, F⟩ := T.d_Machine_branch
  refine ⟨_, fd, F.ok sc_Machine_branch len (fun cdv A outer s H vs Q E hr h => ⟨t_Machine_branch K E, ?_, pure vs H Q E h⟩), T.m_Machine_branch, F.bindsN fun _ _ _ _ _ _ us hl => match us, hl with | [_, _], _ => rfl⟩
  exact PSs.nox (pss_cons (ps_set (i := 2) sc_Machine_branch.nd rfl (Or.inl rfl) (pc G_bits_of (hr.mono (by decide)) pass0 (by exact (pa_cons (pv 1) (pa_cons pe_int (pa_cons pe_int pa_nil))))))
      (pss_cons (ps_set (i := 3) sc_Machine_branch.nd rfl (Or.inl rfl) (pe_cmpR op_eq (pc G_bits_of (hr.mono (by decide)) pass0 (by exact (pa_cons (pv 1) (pa_cons pe_int (pa_cons pe_int pa_nil))))) pe_int (nomark _)))
      (pss_cons (ps_set (i := 4) sc_Machine_branch.nd rfl (Or.inl rfl) (pe_op op_add (pe_fld (pv 0) rfl) (pe_op op_mul pe_int (pc G_part_signed (hr.mono (by decide)) pass0 (by exact (pa_cons (pc G_bits_of (hr.mono (by decide)) pass0 (by exact (pa_cons (pv 1) (pa_cons pe_int (pa_cons pe_int pa_nil))))) (pa_cons pe_int pa_nil)))))))
      (pss_one (ps_if (pt_val (pm G_Conditions_holds T.cl_Conditions (hr.mono (by decide)) pass0 (pe_fld (pv 0) rfl) (by exact (pa_cons (pv 2) pa_nil)))) (pss_one (ps_if (PW.pt (pw_and (pt_cmpR op_eq (pv 2) pe_int (nomark _)) (pw_and1 (pt_val (pv 3))))) (pss_one (ps_expr (pm G_Machine_set_places T.cl_Machine (hr.mono (by decide)) pass0 (pv 0) (by exact (pa_cons (pv 4) (pa_cons (pe_op op_add (pv 4) pe_int) pa_nil)))))) (pss_one (ps_expr (pm G_Machine_jump T.cl_Machine (hr.mono (by decide)) pass0 (pv 0) (by exact (pa_cons (pv 4) pa_nil))))))) (pss_one (ps_if (pt_val (pv 3)) (pss_one (ps_expr (pm G_Machine_set_places T.cl_Machine (hr.mono (by decide)) pass0 (pv 0) (by exact (pa_cons (pe_op op_add (pe_fld (pv 0) rfl) pe_int) (pa_cons (pe_op op_add (pe_fld (pv 0) rfl) pe_int) pa_nil)))))) (pss_one (ps_expr (pm0 G_Machine_go_on T.cl_Machine (hr.mono (by decide)) pass0 (pv 0)))))))))))
theorem sc_Machine_short : FnScope ["self", "ins", "kind"] ["self", "ins"] (defScope s_Machine_short) := ⟨rfl, rfl, rfl, by decide +kernel, rfl, by decide +kernel, by decide +kernel⟩
def t_Machine_short (K : PySem.W.Frag) (E : XK) : TS :=
  (tSeq (tAsg (tCall (sp_bits_of K) [] E0 (tCons (tVar 1) (tCons (tC (.int 22)) (tCons (tC (.int 3)) tNil)))) (gName 2))
    (tIfS (tTest (tOp rEq (tVar 2) (tC (.int 4)))) (tDrop (tMeth (He.ga K "Machine") "give" (sp_Machine_give K) [] E0 (tVar 0) (tCons (tVar 1) (tCons (tOp rMulI (tC (.int 1024)) (tCall (sp_bits_of K) [] E0 (tCons (tVar 1) (tCons (tC (.int 0)) (tCons (tC (.int 22)) tNil))))) tNil)))) (tIfS (tTest (tOp rEq (tVar 2) (tC (.int 2)))) (tDrop (tMeth (He.ga K "Machine") "branch" (sp_Machine_branch K) [] E0 (tVar 0) (tCons (tVar 1) tNil))) (tTrap K (fun cls d _ H => E cls d H) (tCons (tC (.int 2)) tNil)))))
theorem ok_Machine_short (T : Txt K mg) (G_bits_of : CallG P w K mg base CX0 1 "bits_of" ["word", "last", "many"] (sp_bits_of K)) (G_Machine_give : MethG P w K mg base CX0 3 (He.ga K "Machine") "give" ["self", "ins", "word"] (sp_Machine_give K)) (G_Machine_branch : MethG P w K mg base CX0 3 (He.ga K "Machine") "branch" ["self", "ins"] (sp_Machine_branch K)) (G_trap : TrapG P w K mg base) (len : ∀ vs H Q E, sp_Machine_short K vs H Q E → vs.length = 2)
    (pure : ∀ vs H Q E, sp_Machine_short K vs H Q E → t_Machine_short K E { nx := fun _ H' => Q .non H', rt := Q } (start ["self", "ins", "kind"] vs) H) : MethG P w K mg base (L2.CX P w) 4 (He.ga K "Machine") "short" ["self", "ins"] (sp_Machine_short K) := by
  obtain ⟨fd, F⟩ := T.d_Machine_short
  refine ⟨_, fd, F.ok sc_Machine_short len (fun cdv A outer s H vs Q E hr h => ⟨t_Machine_short K E, ?_, pure vs H Q E h⟩), T.m_Machine_short, F.bindsN fun _ _ _ _ _ _ us hl => match us, hl with | [_, _], _ => rfl⟩
  exact (pss_cons (ps_set (i := 2) sc_Machine_short.nd rfl (Or.inl rfl) (pc G_bits_of (hr.mono (by decide)) pass0 (by exact (pa_cons (pv 1) (pa_cons pe_int (pa_cons pe_int pa_nil))))))
      (pss_one (ps_if (pt_cmpR op_eq (pv 2) pe_int (nomark _)) (pss_one (ps_expr (pm G_Machine_give T.cl_Machine (hr.mono (by decide)) pass0 (pv 0) (by exact (pa_cons (pv 1) (pa_cons (pe_op op_mul pe_int (pc G_bits_of (hr.mono (by decide)) pass0 (by exact (pa_cons (pv 1) (pa_cons pe_int (pa_cons pe_int pa_nil)))))) pa_nil)))))) (pss_one (ps_if (pt_cmpR op_eq (pv 2) pe_int (nomark _)) (pss_one (ps_expr (pm G_Machine_branch T.cl_Machine (hr.mono (by decide)) pass0 (pv 0) (by exact (pa_cons (pv 1) pa_nil))))) (pss_one (ps_trap G_trap (hr.mono (by decide)) rfl (takes_of rfl rfl rfl rfl) (by exact (pa_cons (pgi T.i_NO_SUCH) pa_nil)))))))))
theorem sc_Machine_reckon : FnScope ["self", "ins", "op", "a", "b", "low", "word", "high", "found", "conditions"] ["self", "ins", "op"] (defScope s_Machine_reckon) := ⟨rfl, rfl, rfl, by decide +kernel, rfl, by decide +kernel, by decide +kernel⟩
def t_Machine_reckon (K : PySem.W.Frag) (E : XK) : TS :=
  (tSeq (tAsg (tMeth (He.ga K "Machine") "first" (sp_Machine_first K) [] E0 (tVar 0) (tCons (tVar 1) tNil)) (gName 3))
    (tSeq (tAsg (tMeth (He.ga K "Machine") "second" (sp_Machine_second K) [] E0 (tVar 0) (tCons (tVar 1) tNil)) (gName 4))
    (tSeq (tAsg (tOp rModI (tVar 2) (tC (.int 16))) (gName 5))
    (tSeq (tIfS (tTest (tOp (rIn K false) (tVar 5) (tTup (tCons (tC (.int 10)) (tCons (tC (.int 11)) tNil))))) (tSeq (tAsg (tCall (sp_product K) [] E0 (tCons (tVar 3) (tCons (tVar 4) (tCons (tOp rEq (tVar 5) (tC (.int 11))) tNil)))) (gTup K 2 (gCons (gName 6) (gCons (gName 7) gNil))))
    (tSeq (tAsg (tCall (sp_plain K) [] E0 (tCons (tVar 6) tNil)) (gTup K 2 (gCons (gName 8) (gCons (gName 9) gNil))))
    (tDrop (tMeth (He.ga K "Machine") "set_y" (sp_Machine_set_y K) [] E0 (tVar 0) (tCons (tVar 7) tNil))))) (tIfS (tTest (tOp (rIn K false) (tVar 5) (tTup (tCons (tC (.int 14)) (tCons (tC (.int 15)) tNil))))) (tAsg (tCall (sp_quotient K) [] E (tCons (tFld K (tVar 0) "y") (tCons (tVar 3) (tCons (tVar 4) (tCons (tOp rEq (tVar 5) (tC (.int 15))) tNil))))) (gTup K 2 (gCons (gName 8) (gCons (gName 9) gNil)))) (tAsg (tCall (sp_simple K) [] E (tCons (tVar 5) (tCons (tVar 3) (tCons (tVar 4) (tCons (tCB rInt1 (tCons (tFld K (tFld K (tVar 0) "conditions") "c") tNil)) tNil))))) (gTup K 2 (gCons (gName 8) (gCons (gName 9) gNil))))))
    (tSeq (tIfS (tTest (tOp rGeB (tVar 2) (tC (.int 16)))) (tDrop (tMeth (He.ga K "Machine") "set_conditions" (sp_Machine_set_conditions K) [] E0 (tVar 0) (tCons (tVar 9) tNil))) tNext)
    (tDrop (tMeth (He.ga K "Machine") "give" (sp_Machine_give K) [] E0 (tVar 0) (tCons (tVar 1) (tCons (tVar 8) tNil)))))))))
theorem ok_Machine_reckon (T : Txt K mg) (G_Machine_give : MethG P w K mg base CX0 3 (He.ga K "Machine") "give" ["self", "ins", "word"] (sp_Machine_give K)) (G_Machine_set_conditions : MethG P w K mg base CX0 1 (He.ga K "Machine") "set_conditions" ["self", "conditions"] (sp_Machine_set_conditions K)) (G_Machine_set_y : MethG P w K mg base CX0 1 (He.ga K "Machine") "set_y" ["self", "word"] (sp_Machine_set_y K)) (G_plain : CallG P w K mg base CX0 4 "plain" ["word"] (sp_plain K)) (G_product : CallG P w K mg base CX0 3 "product" ["a", "b", "with_signs"] (sp_product K)) (G_quotient : CallG P w K mg base (L2.CX P w) 5 "quotient" ["y", "a", "b", "with_signs"] (sp_quotient K)) (G_simple : CallG P w K mg base (L2.CX P w) 6 "simple" ["op", "a", "b", "carry"] (sp_simple K)) (G_Machine_second : MethG P w K mg base CX0 3 (He.ga K "Machine") "second" ["self", "ins"] (sp_Machine_second K)) (G_Machine_first : MethG P w K mg base CX0 3 (He.ga K "Machine") "first" ["self", "ins"] (sp_Machine_first K)) (len : ∀ vs H Q E, sp_Machine_reckon K vs H Q E → vs.length = 3)
    (pure : ∀ vs H Q E, sp_Machine_reckon K vs H Q E → t_Machine_reckon K E { nx := fun _ H' => Q .non H', rt := Q } (start ["self", "ins", "op", "a", "b", "low", "word", "high", "found", "conditions"] vs) H) : MethG P w K mg base (L2.CX P w) 7 (He.ga K "Machine") "reckon" ["self", "ins", "op"] (sp_Machine_reckon K) := by
  obtain ⟨fd, F⟩ := T.d_Machine_reckon
  refine ⟨_, fd, F.ok sc_Machine_reckon len (fun cdv A outer s H vs Q E hr h => ⟨t_Machine_reckon K E, ?_, pure vs H Q E h⟩), T.m_Machine_reckon, F.bindsN fun _ _ _ _ _ _ us hl => match us, hl with | [_, _, _], _ => rfl⟩
  exact (pss_cons (ps_set (i := 3) sc_Machine_reckon.nd rfl (Or.inl rfl) (pm G_Machine_first T.cl_Machine (hr.mono (by decide)) pass0 (pv 0) (by exact (pa_cons (pv 1) pa_nil))))
      (pss_cons (ps_set (i := 4) sc_Machine_reckon.nd rfl (Or.inl rfl) (pm G_Machine_second T.cl_Machine (hr.mono (by decide)) pass0 (pv 0) (by exact (pa_cons (pv 1) pa_nil))))
      (pss_cons (ps_set (i := 5) sc_Machine_reckon.nd rfl (Or.inl rfl) (pe_op op_mod (pv 2) pe_int))
      (pss_cons (ps_if (pt_cmpR op_in_seq (pv 5) (pe_tup (pa_cons pe_int (pa_cons pe_int pa_nil))) (by with_unfolding_all rfl)) (pss_cons (ps_asg (pc G_product (hr.mono (by decide)) pass0 (by exact (pa_cons (pv 3) (pa_cons (pv 4) (pa_cons (pe_cmpR op_eq (pv 5) pe_int (nomark _)) pa_nil))))) (pg_tup rfl (pgs_cons (pg_name (i := 6) sc_Machine_reckon.nd rfl (Or.inl rfl)) (pgs_cons (pg_name (i := 7) sc_Machine_reckon.nd rfl (Or.inl rfl)) pgs_nil))))
      (pss_cons (ps_asg (pc G_plain (hr.mono (by decide)) pass0 (by exact (pa_cons (pv 6) pa_nil))) (pg_tup rfl (pgs_cons (pg_name (i := 8) sc_Machine_reckon.nd rfl (Or.inl rfl)) (pgs_cons (pg_name (i := 9) sc_Machine_reckon.nd rfl (Or.inl rfl)) pgs_nil))))
      (pss_one (ps_expr (pm G_Machine_set_y T.cl_Machine (hr.mono (by decide)) pass0 (pv 0) (by exact (pa_cons (pv 7) pa_nil))))))) (pss_one (ps_if (pt_cmpR op_in_seq (pv 5) (pe_tup (pa_cons pe_int (pa_cons pe_int pa_nil))) (by with_unfolding_all rfl)) (pss_one (ps_asg (pc G_quotient (hr.mono (by decide)) (passes_call (takes_of rfl rfl rfl rfl) (fun _ _ _ _ h => h)) (by exact (pa_cons (pe_fld (pv 0) rfl) (pa_cons (pv 3) (pa_cons (pv 4) (pa_cons (pe_cmpR op_eq (pv 5) pe_int (nomark _)) pa_nil)))))) (pg_tup rfl (pgs_cons (pg_name (i := 8) sc_Machine_reckon.nd rfl (Or.inl rfl)) (pgs_cons (pg_name (i := 9) sc_Machine_reckon.nd rfl (Or.inl rfl)) pgs_nil))))) (pss_one (ps_asg (pc G_simple (hr.mono (by decide)) (passes_call (takes_of rfl rfl rfl rfl) (fun _ _ _ _ h => h)) (by exact (pa_cons (pv 5) (pa_cons (pv 3) (pa_cons (pv 4) (pa_cons (pe_callTy call_int1 (by rfl) T.f_int (by decide +kernel) (by exact (pa_cons (pe_fld (pe_fld (pv 0) rfl) rfl) pa_nil))) pa_nil)))))) (pg_tup rfl (pgs_cons (pg_name (i := 8) sc_Machine_reckon.nd rfl (Or.inl rfl)) (pgs_cons (pg_name (i := 9) sc_Machine_reckon.nd rfl (Or.inl rfl)) pgs_nil))))))))
      (pss_cons (ps_if (pt_cmpR op_ge (pv 2) pe_int (nomark _)) (pss_one (ps_expr (pm G_Machine_set_conditions T.cl_Machine (hr.mono (by decide)) pass0 (pv 0) (by exact (pa_cons (pv 9) pa_nil))))) pss_nil)
      (pss_one (ps_expr (pm G_Machine_give T.cl_Machine (hr.mono (by decide)) pass0 (pv 0) (by exact (pa_cons (pv 1) (pa_cons (pv 8) pa_nil)))))))))))
theorem sc_Machine_special : FnScope ["self", "ins", "op", "a", "b", "found", "conditions", "y"] ["self", "ins", "op"] (defScope s_Machine_special) := ⟨rfl, rfl, rfl, by decide +kernel, rfl, by decide +kernel, by decide +kernel⟩
def t_Machine_special (K : PySem.W.Frag) (E : XK) : TS :=
  (tSeq (tAsg (tMeth (He.ga K "Machine") "first" (sp_Machine_first K) [] E0 (tVar 0) (tCons (tVar 1) tNil)) (gName 3))
    (tSeq (tAsg (tMeth (He.ga K "Machine") "second" (sp_Machine_second K) [] E0 (tVar 0) (tCons (tVar 1) tNil)) (gName 4))
    (tIfS (tTest (tChain rLeB rLeB (tC (.int 32)) (tVar 2) (tC (.int 35)))) (tSeq (tAsg (tCall (sp_tagged K) [] E (tCons (tVar 2) (tCons (tVar 3) (tCons (tVar 4) tNil)))) (gTup K 2 (gCons (gName 5) (gCons (gName 6) gNil))))
    (tSeq (tDrop (tMeth (He.ga K "Machine") "set_conditions" (sp_Machine_set_conditions K) [] E0 (tVar 0) (tCons (tVar 6) tNil)))
    (tDrop (tMeth (He.ga K "Machine") "give" (sp_Machine_give K) [] E0 (tVar 0) (tCons (tVar 1) (tCons (tVar 5) tNil)))))) (tIfS (tTest (tOp rEq (tVar 2) (tC (.int 36)))) (tSeq (tAsg (tCall (sp_product_step K) [] E0 (tCons (tVar 3) (tCons (tVar 4) (tCons (tFld K (tVar 0) "y") (tCons (tFld K (tVar 0) "conditions") tNil))))) (gTup K 3 (gCons (gName 5) (gCons (gName 6) (gCons (gName 7) gNil)))))
    (tSeq (tDrop (tMeth (He.ga K "Machine") "set_conditions" (sp_Machine_set_conditions K) [] E0 (tVar 0) (tCons (tVar 6) tNil)))
    (tSeq (tDrop (tMeth (He.ga K "Machine") "set_y" (sp_Machine_set_y K) [] E0 (tVar 0) (tCons (tVar 7) tNil)))
    (tDrop (tMeth (He.ga K "Machine") "give" (sp_Machine_give K) [] E0 (tVar 0) (tCons (tVar 1) (tCons (tVar 5) tNil))))))) (tIfS (tTest (tChain rLeB rLeB (tC (.int 37)) (tVar 2) (tC (.int 39)))) (tDrop (tMeth (He.ga K "Machine") "give" (sp_Machine_give K) [] E0 (tVar 0) (tCons (tVar 1) (tCons (tCall (sp_shifted K) [] E0 (tCons (tVar 2) (tCons (tVar 3) (tCons (tVar 4) tNil)))) tNil)))) (tIfS (tAnd (tTest (tOp rEq (tVar 2) (tC (.int 40)))) (tTest (tOp rEq (tCall (sp_bits_of K) [] E0 (tCons (tVar 1) (tCons (tC (.int 14)) (tCons (tC (.int 5)) tNil)))) (tC (.int 0))))) (tDrop (tMeth (He.ga K "Machine") "give" (sp_Machine_give K) [] E0 (tVar 0) (tCons (tVar 1) (tCons (tFld K (tVar 0) "y") tNil)))) (tIfS (tAnd (tTest (tOp rEq (tVar 2) (tC (.int 48)))) (tTest (tOp rEq (tCall (sp_bits_of K) [] E0 (tCons (tVar 1) (tCons (tC (.int 25)) (tCons (tC (.int 5)) tNil)))) (tC (.int 0))))) (tSeq (tDrop (tMeth (He.ga K "Machine") "set_y" (sp_Machine_set_y K) [] E0 (tVar 0) (tCons (tOp rXorI (tVar 3) (tVar 4)) tNil)))
    (tDrop (tMeth (He.ga K "Machine") "go_on" (sp_Machine_go_on K) [] E0 (tVar 0) tNil))) (tTrap K (fun cls d _ H => E cls d H) (tCons (tC (.int 2)) tNil)))))))))
theorem ok_Machine_special (T : Txt K mg) (G_Machine_give : MethG P w K mg base CX0 3 (He.ga K "Machine") "give" ["self", "ins", "word"] (sp_Machine_give K)) (G_Machine_set_conditions : MethG P w K mg base CX0 1 (He.ga K "Machine") "set_conditions" ["self", "conditions"] (sp_Machine_set_conditions K)) (G_tagged : CallG P w K mg base (L2.CX P w) 5 "tagged" ["op", "a", "b"] (sp_tagged K)) (G_Machine_set_y : MethG P w K mg base CX0 1 (He.ga K "Machine") "set_y" ["self", "word"] (sp_Machine_set_y K)) (G_product_step : CallG P w K mg base CX0 5 "product_step" ["a", "b", "y", "conditions"] (sp_product_step K)) (G_shifted : CallG P w K mg base CX0 3 "shifted" ["op", "a", "b"] (sp_shifted K)) (G_bits_of : CallG P w K mg base CX0 1 "bits_of" ["word", "last", "many"] (sp_bits_of K)) (G_Machine_go_on : MethG P w K mg base CX0 2 (He.ga K "Machine") "go_on" ["self"] (sp_Machine_go_on K)) (G_trap : TrapG P w K mg base) (G_Machine_second : MethG P w K mg base CX0 3 (He.ga K "Machine") "second" ["self", "ins"] (sp_Machine_second K)) (G_Machine_first : MethG P w K mg base CX0 3 (He.ga K "Machine") "first" ["self", "ins"] (sp_Machine_first K)) (len : ∀ vs H Q E, sp_Machine_special K vs H Q E → vs.length = 3)
    (pure : ∀ vs H Q E, sp_Machine_special K vs H Q E → t_Machine_special K E { nx := fun _ H' => Q .non H', rt := Q } (start ["self", "ins", "op", "a", "b", "found", "conditions", "y"] vs) H) : MethG P w K mg base (L2.CX P w) 6 (He.ga K "Machine") "special" ["self", "ins", "op"] (sp_Machine_special K) := by
  obtain ⟨fd, F⟩ := T.d_Machine_special
  refine ⟨_, fd, F.ok sc_Machine_special len (fun cdv A outer s H vs Q E hr h => ⟨t_Machine_special K E, ?_, pure vs H Q E h⟩), T.m_Machine_special, F.bindsN fun _ _ _ _ _ _ us hl => match us, hl with | [_, _, _], _ => rfl⟩
  exact (pss_cons (ps_set (i := 3) sc_Machine_special.nd rfl (Or.inl rfl) (pm G_Machine_first T.cl_Machine (hr.mono (by decide)) pass0 (pv 0) (by exact (pa_cons (pv 1) pa_nil))))
      (pss_cons (ps_set (i := 4) sc_Machine_special.nd rfl (Or.inl rfl) (pm G_Machine_second T.cl_Machine (hr.mono (by decide)) pass0 (pv 0) (by exact (pa_cons (pv 1) pa_nil))))
      (pss_one (ps_if (pt_chain op_le op_le pe_int (pv 2) pe_int) (pss_cons (ps_asg (pc G_tagged (hr.mono (by decide)) (passes_call (takes_of rfl rfl rfl rfl) (fun _ _ _ _ h => h)) (by exact (pa_cons (pv 2) (pa_cons (pv 3) (pa_cons (pv 4) pa_nil))))) (pg_tup rfl (pgs_cons (pg_name (i := 5) sc_Machine_special.nd rfl (Or.inl rfl)) (pgs_cons (pg_name (i := 6) sc_Machine_special.nd rfl (Or.inl rfl)) pgs_nil))))
      (pss_cons (ps_expr (pm G_Machine_set_conditions T.cl_Machine (hr.mono (by decide)) pass0 (pv 0) (by exact (pa_cons (pv 6) pa_nil))))
      (pss_one (ps_expr (pm G_Machine_give T.cl_Machine (hr.mono (by decide)) pass0 (pv 0) (by exact (pa_cons (pv 1) (pa_cons (pv 5) pa_nil)))))))) (pss_one (ps_if (pt_cmpR op_eq (pv 2) pe_int (nomark _)) (pss_cons (ps_asg (pc G_product_step (hr.mono (by decide)) pass0 (by exact (pa_cons (pv 3) (pa_cons (pv 4) (pa_cons (pe_fld (pv 0) rfl) (pa_cons (pe_fld (pv 0) rfl) pa_nil)))))) (pg_tup rfl (pgs_cons (pg_name (i := 5) sc_Machine_special.nd rfl (Or.inl rfl)) (pgs_cons (pg_name (i := 6) sc_Machine_special.nd rfl (Or.inl rfl)) (pgs_cons (pg_name (i := 7) sc_Machine_special.nd rfl (Or.inl rfl)) pgs_nil)))))
      (pss_cons (ps_expr (pm G_Machine_set_conditions T.cl_Machine (hr.mono (by decide)) pass0 (pv 0) (by exact (pa_cons (pv 6) pa_nil))))
      (pss_cons (ps_expr (pm G_Machine_set_y T.cl_Machine (hr.mono (by decide)) pass0 (pv 0) (by exact (pa_cons (pv 7) pa_nil))))
      (pss_one (ps_expr (pm G_Machine_give T.cl_Machine (hr.mono (by decide)) pass0 (pv 0) (by exact (pa_cons (pv 1) (pa_cons (pv 5) pa_nil))))))))) (pss_one (ps_if (pt_chain op_le op_le pe_int (pv 2) pe_int) (pss_one (ps_expr (pm G_Machine_give T.cl_Machine (hr.mono (by decide)) pass0 (pv 0) (by exact (pa_cons (pv 1) (pa_cons (pc G_shifted (hr.mono (by decide)) pass0 (by exact (pa_cons (pv 2) (pa_cons (pv 3) (pa_cons (pv 4) pa_nil))))) pa_nil)))))) (pss_one (ps_if (PW.pt (pw_and (pt_cmpR op_eq (pv 2) pe_int (nomark _)) (pw_and1 (pt_cmpR op_eq (pc G_bits_of (hr.mono (by decide)) pass0 (by exact (pa_cons (pv 1) (pa_cons pe_int (pa_cons pe_int pa_nil))))) pe_int (nomark _))))) (pss_one (ps_expr (pm G_Machine_give T.cl_Machine (hr.mono (by decide)) pass0 (pv 0) (by exact (pa_cons (pv 1) (pa_cons (pe_fld (pv 0) rfl) pa_nil)))))) (pss_one (ps_if (PW.pt (pw_and (pt_cmpR op_eq (pv 2) pe_int (nomark _)) (pw_and1 (pt_cmpR op_eq (pc G_bits_of (hr.mono (by decide)) pass0 (by exact (pa_cons (pv 1) (pa_cons pe_int (pa_cons pe_int pa_nil))))) pe_int (nomark _))))) (pss_cons (ps_expr (pm G_Machine_set_y T.cl_Machine (hr.mono (by decide)) pass0 (pv 0) (by exact (pa_cons (pe_op op_xor (pv 3) (pv 4)) pa_nil))))
      (pss_one (ps_expr (pm0 G_Machine_go_on T.cl_Machine (hr.mono (by decide)) pass0 (pv 0))))) (pss_one (ps_trap G_trap (hr.mono (by decide)) rfl (takes_of rfl rfl rfl rfl) (by exact (pa_cons (pgi T.i_NO_SUCH) pa_nil))))))))))))))))
theorem sc_Machine_jump_away : FnScope ["self", "ins", "place"] ["self", "ins"] (defScope s_Machine_jump_away) := ⟨rfl, rfl, rfl, by decide +kernel, rfl, by decide +kernel, by decide +kernel⟩
def t_Machine_jump_away (K : PySem.W.Frag) (E : XK) : TS :=
  (tSeq (tAsg (tOp rModI (tOp rAddI (tMeth (He.ga K "Machine") "first" (sp_Machine_first K) [] E0 (tVar 0) (tCons (tVar 1) tNil)) (tMeth (He.ga K "Machine") "second" (sp_Machine_second K) [] E0 (tVar 0) (tCons (tVar 1) tNil))) (tC (.int 4294967296))) (gName 2))
    (tSeq (tIfS (tTest (tOp rNe (tOp rModI (tVar 2) (tC (.int 4))) (tC (.int 0)))) (tTrap K (fun cls d _ H => E cls d H) (tCons (tC (.int 7)) tNil)) tNext)
    (tSeq (tDrop (tMeth (He.ga K "Registers") "write" (sp_Registers_write K) [] E0 (tFld K (tVar 0) "registers") (tCons (tCall (sp_bits_of K) [] E0 (tCons (tVar 1) (tCons (tC (.int 25)) (tCons (tC (.int 5)) tNil)))) (tCons (tFld K (tVar 0) "place") tNil))))
    (tDrop (tMeth (He.ga K "Machine") "jump" (sp_Machine_jump K) [] E0 (tVar 0) (tCons (tVar 2) tNil))))))
theorem ok_Machine_jump_away (T : Txt K mg) (G_Machine_jump : MethG P w K mg base CX0 2 (He.ga K "Machine") "jump" ["self", "place"] (sp_Machine_jump K)) (G_bits_of : CallG P w K mg base CX0 1 "bits_of" ["word", "last", "many"] (sp_bits_of K)) (G_Registers_write : MethG P w K mg base CX0 2 (He.ga K "Registers") "write" ["self", "k", "word"] (sp_Registers_write K)) (G_trap : TrapG P w K mg base) (G_Machine_first : MethG P w K mg base CX0 3 (He.ga K "Machine") "first" ["self", "ins"] (sp_Machine_first K)) (G_Machine_second : MethG P w K mg base CX0 3 (He.ga K "Machine") "second" ["self", "ins"] (sp_Machine_second K)) (len : ∀ vs H Q E, sp_Machine_jump_away K vs H Q E → vs.length = 2)
    (pure : ∀ vs H Q E, sp_Machine_jump_away K vs H Q E → t_Machine_jump_away K E { nx := fun _ H' => Q .non H', rt := Q } (start ["self", "ins", "place"] vs) H) : MethG P w K mg base (L2.CX P w) 4 (He.ga K "Machine") "jump_away" ["self", "ins"] (sp_Machine_jump_away K) := by
  obtain ⟨fd, F⟩ := T.d_Machine_jump_away
  refine ⟨_, fd, F.ok sc_Machine_jump_away len (fun cdv A outer s H vs Q E hr h => ⟨t_Machine_jump_away K E, ?_, pure vs H Q E h⟩), T.m_Machine_jump_away, F.bindsN fun _ _ _ _ _ _ us hl => match us, hl with | [_, _], _ => rfl⟩
  exact (pss_cons (ps_set (i := 2) sc_Machine_jump_away.nd rfl (Or.inl rfl) (pe_op op_mod (pe_op op_add (pm G_Machine_first T.cl_Machine (hr.mono (by decide)) pass0 (pv 0) (by exact (pa_cons (pv 1) pa_nil))) (pm G_Machine_second T.cl_Machine (hr.mono (by decide)) pass0 (pv 0) (by exact (pa_cons (pv 1) pa_nil)))) (pgi T.i_WORD)))
      (pss_cons (ps_if (pt_cmpR op_ne (pe_op op_mod (pv 2) pe_int) pe_int (nomark _)) (pss_one (ps_trap G_trap (hr.mono (by decide)) rfl (takes_of rfl rfl rfl rfl) (by exact (pa_cons (pgi T.i_NOT_ALIGNED) pa_nil)))) pss_nil)
      (pss_cons (ps_expr (pm G_Registers_write T.cl_Registers (hr.mono (by decide)) pass0 (pe_fld (pv 0) rfl) (by exact (pa_cons (pc G_bits_of (hr.mono (by decide)) pass0 (by exact (pa_cons (pv 1) (pa_cons pe_int (pa_cons pe_int pa_nil))))) (pa_cons (pe_fld (pv 0) rfl) pa_nil)))))
      (pss_one (ps_expr (pm G_Machine_jump T.cl_Machine (hr.mono (by decide)) pass0 (pv 0) (by exact (pa_cons (pv 2) pa_nil))))))))
theorem sc_Machine_ask_trap : FnScope ["self", "ins"] ["self", "ins"] (defScope s_Machine_ask_trap) := ⟨rfl, rfl, rfl, by decide +kernel, rfl, by decide +kernel, by decide +kernel⟩
def t_Machine_ask_trap (K : PySem.W.Frag) (E : XK) : TS :=
  (tSeq (tIfS (tB (tMeth (He.ga K "Conditions") "holds" (sp_Conditions_holds K) [] E0 (tFld K (tVar 0) "conditions") (tCons (tCall (sp_bits_of K) [] E0 (tCons (tVar 1) (tCons (tC (.int 25)) (tCons (tC (.int 4)) tNil)))) tNil))) (tTrap K (fun cls d _ H => E cls d H) (tCons (tOp rAddI (tC (.int 128)) (tOp rModI (tOp rAddI (tMeth (He.ga K "Machine") "first" (sp_Machine_first K) [] E0 (tVar 0) (tCons (tVar 1) tNil)) (tMeth (He.ga K "Machine") "second" (sp_Machine_second K) [] E0 (tVar 0) (tCons (tVar 1) tNil))) (tC (.int 128)))) tNil)) tNext)
    (tDrop (tMeth (He.ga K "Machine") "go_on" (sp_Machine_go_on K) [] E0 (tVar 0) tNil)))
theorem ok_Machine_ask_trap (T : Txt K mg) (G_Machine_go_on : MethG P w K mg base CX0 2 (He.ga K "Machine") "go_on" ["self"] (sp_Machine_go_on K)) (G_bits_of : CallG P w K mg base CX0 1 "bits_of" ["word", "last", "many"] (sp_bits_of K)) (G_Conditions_holds : MethG P w K mg base CX0 2 (He.ga K "Conditions") "holds" ["self", "number"] (sp_Conditions_holds K)) (G_Machine_first : MethG P w K mg base CX0 3 (He.ga K "Machine") "first" ["self", "ins"] (sp_Machine_first K)) (G_Machine_second : MethG P w K mg base CX0 3 (He.ga K "Machine") "second" ["self", "ins"] (sp_Machine_second K)) (G_trap : TrapG P w K mg base) (len : ∀ vs H Q E, sp_Machine_ask_trap K vs H Q E → vs.length = 2)
    (pure : ∀ vs H Q E, sp_Machine_ask_trap K vs H Q E → t_Machine_ask_trap K E { nx := fun _ H' => Q .non H', rt := Q } (start ["self", "ins"] vs) H) : MethG P w K mg base (L2.CX P w) 4 (He.ga K "Machine") "ask_trap" ["self", "ins"] (sp_Machine_ask_trap K) := by
  obtain ⟨fd, F⟩ := T.d_Machine_ask_trap
  refine ⟨_, fd, F.ok sc_Machine_ask_trap len (fun cdv A outer s H vs Q E hr h => ⟨t_Machine_ask_trap K E, ?_, pure vs H Q E h⟩), T.m_Machine_ask_trap, F.bindsN fun _ _ _ _ _ _ us hl => match us, hl with | [_, _], _ => rfl⟩
  exact (pss_cons (ps_if (pt_val (pm G_Conditions_holds T.cl_Conditions (hr.mono (by decide)) pass0 (pe_fld (pv 0) rfl) (by exact (pa_cons (pc G_bits_of (hr.mono (by decide)) pass0 (by exact (pa_cons (pv 1) (pa_cons pe_int (pa_cons pe_int pa_nil))))) pa_nil)))) (pss_one (ps_trap G_trap (hr.mono (by decide)) rfl (takes_of rfl rfl rfl rfl) (by exact (pa_cons (pe_op op_add (pgi T.i_FIRST_ASKED) (pe_op op_mod (pe_op op_add (pm G_Machine_first T.cl_Machine (hr.mono (by decide)) pass0 (pv 0) (by exact (pa_cons (pv 1) pa_nil))) (pm G_Machine_second T.cl_Machine (hr.mono (by decide)) pass0 (pv 0) (by exact (pa_cons (pv 1) pa_nil)))) pe_int)) pa_nil)))) pss_nil)
      (pss_one (ps_expr (pm0 G_Machine_go_on T.cl_Machine (hr.mono (by decide)) pass0 (pv 0)))))
theorem sc_Machine_turn_window : FnScope ["self", "ins", "more", "trap", "window", "word"] ["self", "ins", "more", "trap"] (defScope s_Machine_turn_window) := ⟨rfl, rfl, rfl, by decide +kernel, rfl, by decide +kernel, by decide +kernel⟩
def t_Machine_turn_window (K : PySem.W.Frag) (E : XK) : TS :=
  (tSeq (tAsg (tOp rAddI (tFld K (tFld K (tVar 0) "registers") "window") (tVar 2)) (gName 4))
    (tSeq (tIfS (tB (tMeth (He.ga K "Registers") "is_barred" (sp_Registers_is_barred K) [] E0 (tFld K (tVar 0) "registers") (tCons (tVar 4) tNil))) (tTrap K (fun cls d _ H => E cls d H) (tCons (tVar 3) tNil)) tNext)
    (tSeq (tAsg (tOp rAddI (tMeth (He.ga K "Machine") "first" (sp_Machine_first K) [] E0 (tVar 0) (tCons (tVar 1) tNil)) (tMeth (He.ga K "Machine") "second" (sp_Machine_second K) [] E0 (tVar 0) (tCons (tVar 1) tNil))) (gName 5))
    (tSeq (tDrop (tMeth (He.ga K "Registers") "set_window" (sp_Registers_set_window K) [] E0 (tFld K (tVar 0) "registers") (tCons (tVar 4) tNil)))
    (tDrop (tMeth (He.ga K "Machine") "give" (sp_Machine_give K) [] E0 (tVar 0) (tCons (tVar 1) (tCons (tVar 5) tNil))))))))
theorem ok_Machine_turn_window (T : Txt K mg) (G_Machine_give : MethG P w K mg base CX0 3 (He.ga K "Machine") "give" ["self", "ins", "word"] (sp_Machine_give K)) (G_Registers_set_window : MethG P w K mg base CX0 1 (He.ga K "Registers") "set_window" ["self", "window"] (sp_Registers_set_window K)) (G_Machine_first : MethG P w K mg base CX0 3 (He.ga K "Machine") "first" ["self", "ins"] (sp_Machine_first K)) (G_Machine_second : MethG P w K mg base CX0 3 (He.ga K "Machine") "second" ["self", "ins"] (sp_Machine_second K)) (G_Registers_is_barred : MethG P w K mg base CX0 1 (He.ga K "Registers") "is_barred" ["self", "window"] (sp_Registers_is_barred K)) (G_trap : TrapG P w K mg base) (len : ∀ vs H Q E, sp_Machine_turn_window K vs H Q E → vs.length = 4)
    (pure : ∀ vs H Q E, sp_Machine_turn_window K vs H Q E → t_Machine_turn_window K E { nx := fun _ H' => Q .non H', rt := Q } (start ["self", "ins", "more", "trap", "window", "word"] vs) H) : MethG P w K mg base (L2.CX P w) 4 (He.ga K "Machine") "turn_window" ["self", "ins", "more", "trap"] (sp_Machine_turn_window K) := by
  obtain ⟨fd, F⟩ := T.d_Machine_turn_window
  refine ⟨_, fd, F.ok sc_Machine_turn_window len (fun cdv A outer s H vs Q E hr h => ⟨t_Machine_turn_window K E, ?_, pure vs H Q E h⟩), T.m_Machine_turn_window, F.bindsN fun _ _ _ _ _ _ us hl => match us, hl with | [_, _, _, _], _ => rfl⟩
  exact (pss_cons (ps_set (i := 4) sc_Machine_turn_window.nd rfl (Or.inl rfl) (pe_op op_add (pe_fld (pe_fld (pv 0) rfl) rfl) (pv 2)))
      (pss_cons (ps_if (pt_val (pm G_Registers_is_barred T.cl_Registers (hr.mono (by decide)) pass0 (pe_fld (pv 0) rfl) (by exact (pa_cons (pv 4) pa_nil)))) (pss_one (ps_trap G_trap (hr.mono (by decide)) rfl (takes_of rfl rfl rfl rfl) (by exact (pa_cons (pv 3) pa_nil)))) pss_nil)
      (pss_cons (ps_set (i := 5) sc_Machine_turn_window.nd rfl (Or.inl rfl) (pe_op op_add (pm G_Machine_first T.cl_Machine (hr.mono (by decide)) pass0 (pv 0) (by exact (pa_cons (pv 1) pa_nil))) (pm G_Machine_second T.cl_Machine (hr.mono (by decide)) pass0 (pv 0) (by exact (pa_cons (pv 1) pa_nil)))))
      (pss_cons (ps_expr (pm G_Registers_set_window T.cl_Registers (hr.mono (by decide)) pass0 (pe_fld (pv 0) rfl) (by exact (pa_cons (pv 4) pa_nil))))
      (pss_one (ps_expr (pm G_Machine_give T.cl_Machine (hr.mono (by decide)) pass0 (pv 0) (by exact (pa_cons (pv 1) (pa_cons (pv 5) pa_nil))))))))))
theorem sc_Machine_operate : FnScope ["self", "ins", "op"] ["self", "ins"] (defScope s_Machine_operate) := ⟨rfl, rfl, rfl, by decide +kernel, rfl, by decide +kernel, by decide +kernel⟩
def t_Machine_operate (K : PySem.W.Frag) (E : XK) : TS :=
  (tSeq (tAsg (tCall (sp_bits_of K) [] E0 (tCons (tVar 1) (tCons (tC (.int 19)) (tCons (tC (.int 6)) tNil)))) (gName 2))
    (tIfS (tTest (tOp rLtB (tVar 2) (tC (.int 32)))) (tDrop (tMeth (He.ga K "Machine") "reckon" (sp_Machine_reckon K) [] E (tVar 0) (tCons (tVar 1) (tCons (tVar 2) tNil)))) (tIfS (tTest (tOp rLeB (tVar 2) (tC (.int 48)))) (tDrop (tMeth (He.ga K "Machine") "special" (sp_Machine_special K) [] E (tVar 0) (tCons (tVar 1) (tCons (tVar 2) tNil)))) (tIfS (tTest (tOp rEq (tVar 2) (tC (.int 56)))) (tDrop (tMeth (He.ga K "Machine") "jump_away" (sp_Machine_jump_away K) [] E (tVar 0) (tCons (tVar 1) tNil))) (tIfS (tTest (tOp rEq (tVar 2) (tC (.int 58)))) (tDrop (tMeth (He.ga K "Machine") "ask_trap" (sp_Machine_ask_trap K) [] E (tVar 0) (tCons (tVar 1) tNil))) (tIfS (tTest (tOp rEq (tVar 2) (tC (.int 59)))) (tDrop (tMeth (He.ga K "Machine") "go_on" (sp_Machine_go_on K) [] E0 (tVar 0) tNil)) (tIfS (tTest (tOp rEq (tVar 2) (tC (.int 60)))) (tDrop (tMeth (He.ga K "Machine") "turn_window" (sp_Machine_turn_window K) [] E (tVar 0) (tCons (tVar 1) (tCons (tUn rNeg (tC (.int 1))) (tCons (tC (.int 5)) tNil))))) (tIfS (tTest (tOp rEq (tVar 2) (tC (.int 61)))) (tDrop (tMeth (He.ga K "Machine") "turn_window" (sp_Machine_turn_window K) [] E (tVar 0) (tCons (tVar 1) (tCons (tC (.int 1)) (tCons (tC (.int 6)) tNil))))) (tTrap K (fun cls d _ H => E cls d H) (tCons (tC (.int 2)) tNil))))))))))
theorem ok_Machine_operate (T : Txt K mg) (G_Machine_reckon : MethG P w K mg base (L2.CX P w) 7 (He.ga K "Machine") "reckon" ["self", "ins", "op"] (sp_Machine_reckon K)) (G_Machine_special : MethG P w K mg base (L2.CX P w) 6 (He.ga K "Machine") "special" ["self", "ins", "op"] (sp_Machine_special K)) (G_Machine_jump_away : MethG P w K mg base (L2.CX P w) 4 (He.ga K "Machine") "jump_away" ["self", "ins"] (sp_Machine_jump_away K)) (G_Machine_ask_trap : MethG P w K mg base (L2.CX P w) 4 (He.ga K "Machine") "ask_trap" ["self", "ins"] (sp_Machine_ask_trap K)) (G_Machine_go_on : MethG P w K mg base CX0 2 (He.ga K "Machine") "go_on" ["self"] (sp_Machine_go_on K)) (G_Machine_turn_window : MethG P w K mg base (L2.CX P w) 4 (He.ga K "Machine") "turn_window" ["self", "ins", "more", "trap"] (sp_Machine_turn_window K)) (G_trap : TrapG P w K mg base) (G_bits_of : CallG P w K mg base CX0 1 "bits_of" ["word", "last", "many"] (sp_bits_of K)) (len : ∀ vs H Q E, sp_Machine_operate K vs H Q E → vs.length = 2)
    (pure : ∀ vs H Q E, sp_Machine_operate K vs H Q E → t_Machine_operate K E { nx := fun _ H' => Q .non H', rt := Q } (start ["self", "ins", "op"] vs) H) : MethG P w K mg base (L2.CX P w) 8 (He.ga K "Machine") "operate" ["self", "ins"] (sp_Machine_operate K) := by
  obtain ⟨fd, F⟩ := T.d_Machine_operate
  refine ⟨_, fd, F.ok sc_Machine_operate len (fun cdv A outer s H vs Q E hr h => ⟨t_Machine_operate K E, ?_, pure vs H Q E h⟩), T.m_Machine_operate, F.bindsN fun _ _ _ _ _ _ us hl => match us, hl with | [_, _], _ => rfl⟩
  exact (pss_cons (ps_set (i := 2) sc_Machine_operate.nd rfl (Or.inl rfl) (pc G_bits_of (hr.mono (by decide)) pass0 (by exact (pa_cons (pv 1) (pa_cons pe_int (pa_cons pe_int pa_nil))))))
      (pss_one (ps_if (pt_cmpR op_lt (pv 2) pe_int (nomark _)) (pss_one (ps_expr (pm G_Machine_reckon T.cl_Machine (hr.mono (by decide)) (passes_call (takes_of rfl rfl rfl rfl) (fun _ _ _ _ h => h)) (pv 0) (by exact (pa_cons (pv 1) (pa_cons (pv 2) pa_nil)))))) (pss_one (ps_if (pt_cmpR op_le (pv 2) pe_int (nomark _)) (pss_one (ps_expr (pm G_Machine_special T.cl_Machine (hr.mono (by decide)) (passes_call (takes_of rfl rfl rfl rfl) (fun _ _ _ _ h => h)) (pv 0) (by exact (pa_cons (pv 1) (pa_cons (pv 2) pa_nil)))))) (pss_one (ps_if (pt_cmpR op_eq (pv 2) pe_int (nomark _)) (pss_one (ps_expr (pm G_Machine_jump_away T.cl_Machine (hr.mono (by decide)) (passes_call (takes_of rfl rfl rfl rfl) (fun _ _ _ _ h => h)) (pv 0) (by exact (pa_cons (pv 1) pa_nil))))) (pss_one (ps_if (pt_cmpR op_eq (pv 2) pe_int (nomark _)) (pss_one (ps_expr (pm G_Machine_ask_trap T.cl_Machine (hr.mono (by decide)) (passes_call (takes_of rfl rfl rfl rfl) (fun _ _ _ _ h => h)) (pv 0) (by exact (pa_cons (pv 1) pa_nil))))) (pss_one (ps_if (pt_cmpR op_eq (pv 2) pe_int (nomark _)) (pss_one (ps_expr (pm0 G_Machine_go_on T.cl_Machine (hr.mono (by decide)) pass0 (pv 0)))) (pss_one (ps_if (pt_cmpR op_eq (pv 2) pe_int (nomark _)) (pss_one (ps_expr (pm G_Machine_turn_window T.cl_Machine (hr.mono (by decide)) (passes_call (takes_of rfl rfl rfl rfl) (fun _ _ _ _ h => h)) (pv 0) (by exact (pa_cons (pv 1) (pa_cons (pe_un un_neg pe_int) (pa_cons (pgi T.i_NO_WINDOW_BELOW) pa_nil))))))) (pss_one (ps_if (pt_cmpR op_eq (pv 2) pe_int (nomark _)) (pss_one (ps_expr (pm G_Machine_turn_window T.cl_Machine (hr.mono (by decide)) (passes_call (takes_of rfl rfl rfl rfl) (fun _ _ _ _ h => h)) (pv 0) (by exact (pa_cons (pv 1) (pa_cons pe_int (pa_cons (pgi T.i_NO_WINDOW_ABOVE) pa_nil))))))) (pss_one (ps_trap G_trap (hr.mono (by decide)) rfl (takes_of rfl rfl rfl rfl) (by exact (pa_cons (pgi T.i_NO_SUCH) pa_nil)))))))))))))))))))
theorem sc_Machine_place_for : FnScope ["self", "ins", "size", "at"] ["self", "ins", "size"] (defScope s_Machine_place_for) := ⟨rfl, rfl, rfl, by decide +kernel, rfl, by decide +kernel, by decide +kernel⟩
def t_Machine_place_for (K : PySem.W.Frag) (E : XK) : TS :=
  (tSeq (tAsg (tOp rModI (tOp rAddI (tMeth (He.ga K "Machine") "first" (sp_Machine_first K) [] E0 (tVar 0) (tCons (tVar 1) tNil)) (tMeth (He.ga K "Machine") "second" (sp_Machine_second K) [] E0 (tVar 0) (tCons (tVar 1) tNil))) (tC (.int 4294967296))) (gName 3))
    (tSeq (tIfS (tTest (tOp rNe (tOp rModI (tVar 3) (tVar 2)) (tC (.int 0)))) (tTrap K (fun cls d _ H => E cls d H) (tCons (tC (.int 7)) tNil)) tNext)
    (tSeq (tIfS (tTest (tOp rGtB (tOp rAddI (tVar 3) (tVar 2)) (tC (.int 65536)))) (tTrap K (fun cls d _ H => E cls d H) (tCons (tC (.int 9)) tNil)) tNext)
    (tRet (tVar 3)))))
theorem ok_Machine_place_for (T : Txt K mg) (G_trap : TrapG P w K mg base) (G_Machine_first : MethG P w K mg base CX0 3 (He.ga K "Machine") "first" ["self", "ins"] (sp_Machine_first K)) (G_Machine_second : MethG P w K mg base CX0 3 (He.ga K "Machine") "second" ["self", "ins"] (sp_Machine_second K)) (len : ∀ vs H Q E, sp_Machine_place_for K vs H Q E → vs.length = 3)
    (pure : ∀ vs H Q E, sp_Machine_place_for K vs H Q E → t_Machine_place_for K E { nx := fun _ H' => Q .non H', rt := Q } (start ["self", "ins", "size", "at"] vs) H) : MethG P w K mg base (L2.CX P w) 4 (He.ga K "Machine") "place_for" ["self", "ins", "size"] (sp_Machine_place_for K) := by
  obtain ⟨fd, F⟩ := T.d_Machine_place_for
  refine ⟨_, fd, F.ok sc_Machine_place_for len (fun cdv A outer s H vs Q E hr h => ⟨t_Machine_place_for K E, ?_, pure vs H Q E h⟩), T.m_Machine_place_for, F.bindsN fun _ _ _ _ _ _ us hl => match us, hl with | [_, _, _], _ => rfl⟩
  exact (pss_cons (ps_set (i := 3) sc_Machine_place_for.nd rfl (Or.inl rfl) (pe_op op_mod (pe_op op_add (pm G_Machine_first T.cl_Machine (hr.mono (by decide)) pass0 (pv 0) (by exact (pa_cons (pv 1) pa_nil))) (pm G_Machine_second T.cl_Machine (hr.mono (by decide)) pass0 (pv 0) (by exact (pa_cons (pv 1) pa_nil)))) (pgi T.i_WORD)))
      (pss_cons (ps_if (pt_cmpR op_ne (pe_op op_mod (pv 3) (pv 2)) pe_int (nomark _)) (pss_one (ps_trap G_trap (hr.mono (by decide)) rfl (takes_of rfl rfl rfl rfl) (by exact (pa_cons (pgi T.i_NOT_ALIGNED) pa_nil)))) pss_nil)
      (pss_cons (ps_if (pt_cmpR op_gt (pe_op op_add (pv 3) (pv 2)) (pgi T.i_MEMORY) (nomark _)) (pss_one (ps_trap G_trap (hr.mono (by decide)) rfl (takes_of rfl rfl rfl rfl) (by exact (pa_cons (pgi T.i_PAST_MEMORY) pa_nil)))) pss_nil)
      (pss_one (ps_ret (pv 3))))))
theorem sc_Machine_load : FnScope ["self", "ins", "op", "at", "size", "found"] ["self", "ins", "op", "at"] (defScope s_Machine_load) := ⟨rfl, rfl, rfl, by decide +kernel, rfl, by decide +kernel, by decide +kernel⟩
def t_Machine_load (K : PySem.W.Frag) (E : XK) : TS :=
  (tSeq (tAsg (tOp (rSizes K) (tC (.ref (He.ga K "SIZES"))) (tVar 2)) (gName 4))
    (tSeq (tAsg (tMeth (He.ga K "Machine") "number_at" (sp_Machine_number_at K) [] E0 (tVar 0) (tCons (tVar 3) (tCons (tVar 4) tNil))) (gName 5))
    (tSeq (tIfS (tTest (tOp rGeB (tVar 2) (tC (.int 9)))) (tRet (tCall (sp_part_signed K) [] E0 (tCons (tVar 5) (tCons (tOp rMulI (tC (.int 8)) (tVar 4)) tNil)))) tNext)
    (tRet (tVar 5)))))
theorem ok_Machine_load (T : Txt K mg) (G_part_signed : CallG P w K mg base CX0 1 "part_signed" ["part", "bits"] (sp_part_signed K)) (G_Machine_number_at : MethG P w K mg base CX0 1 (He.ga K "Machine") "number_at" ["self", "at", "many"] (sp_Machine_number_at K)) (Xt : Ex K) (len : ∀ vs H Q E, sp_Machine_load K vs H Q E → vs.length = 4)
    (pure : ∀ vs H Q E, sp_Machine_load K vs H Q E → t_Machine_load K E { nx := fun _ H' => Q .non H', rt := Q } (start ["self", "ins", "op", "at", "size", "found"] vs) H) : MethG P w K mg base CX0 2 (He.ga K "Machine") "load" ["self", "ins", "op", "at"] (sp_Machine_load K) := by
  obtain ⟨fd, F⟩ := T.d_Machine_load
  refine ⟨_, fd, F.ok sc_Machine_load len (fun cdv A outer s H vs Q E hr h => ⟨t_Machine_load K E, ?_, pure vs H Q E h⟩), T.m_Machine_load, F.bindsN fun _ _ _ _ _ _ us hl => match us, hl with | [_, _, _, _], _ => rfl⟩
  exact PSs.nox (pss_cons (ps_set (i := 4) sc_Machine_load.nd rfl (Or.inl rfl) (pe_ix (ix_sizes Xt.sizes) (pe_glob rfl T.g_SIZES rfl) (pv 2) (fun _ _ => rfl)))
      (pss_cons (ps_set (i := 5) sc_Machine_load.nd rfl (Or.inl rfl) (pm G_Machine_number_at T.cl_Machine (hr.mono (by decide)) pass0 (pv 0) (by exact (pa_cons (pv 3) (pa_cons (pv 4) pa_nil)))))
      (pss_cons (ps_if (pt_cmpR op_ge (pv 2) pe_int (nomark _)) (pss_one (ps_ret (pc G_part_signed (hr.mono (by decide)) pass0 (by exact (pa_cons (pv 5) (pa_cons (pe_op op_mul pe_int (pv 4)) pa_nil)))))) pss_nil)
      (pss_one (ps_ret (pv 5))))))
theorem sc_Machine_move : FnScope ["self", "ins", "op", "d", "at", "word"] ["self", "ins"] (defScope s_Machine_move) := ⟨rfl, rfl, rfl, by decide +kernel, rfl, by decide +kernel, by decide +kernel⟩
def t_Machine_move (K : PySem.W.Frag) (E : XK) : TS :=
  (tSeq (tAsg (tCall (sp_bits_of K) [] E0 (tCons (tVar 1) (tCons (tC (.int 19)) (tCons (tC (.int 6)) tNil)))) (gName 2))
    (tSeq (tAsg (tCall (sp_bits_of K) [] E0 (tCons (tVar 1) (tCons (tC (.int 25)) (tCons (tC (.int 5)) tNil)))) (gName 3))
    (tSeq (tIfS (tOr (tTest (tOp (rNotInSizes K) (tVar 2) (tC (.ref (He.ga K "SIZES"))))) (tAnd (tTest (tOp (rIn K false) (tVar 2) (tTup (tCons (tC (.int 3)) (tCons (tC (.int 7)) tNil))))) (tTest (tOp rEq (tOp rModI (tVar 3) (tC (.int 2))) (tC (.int 1)))))) (tTrap K (fun cls d _ H => E cls d H) (tCons (tC (.int 2)) tNil)) tNext)
    (tSeq (tAsg (tMeth (He.ga K "Machine") "place_for" (sp_Machine_place_for K) [] E (tVar 0) (tCons (tVar 1) (tCons (tOp (rSizes K) (tC (.ref (He.ga K "SIZES"))) (tVar 2)) tNil))) (gName 4))
    (tSeq (tAsg (tMeth (He.ga K "Registers") "read" (sp_Registers_read K) [] E0 (tFld K (tVar 0) "registers") (tCons (tVar 3) tNil)) (gName 5))
    (tSeq (tIfS (tTest (tOp rEq (tVar 2) (tC (.int 3)))) (tSeq (tDrop (tMeth (He.ga K "Registers") "write" (sp_Registers_write K) [] E0 (tFld K (tVar 0) "registers") (tCons (tVar 3) (tCons (tMeth (He.ga K "Machine") "number_at" (sp_Machine_number_at K) [] E0 (tVar 0) (tCons (tVar 4) (tCons (tC (.int 4)) tNil))) tNil))))
    (tDrop (tMeth (He.ga K "Registers") "write" (sp_Registers_write K) [] E0 (tFld K (tVar 0) "registers") (tCons (tOp rAddI (tVar 3) (tC (.int 1))) (tCons (tMeth (He.ga K "Machine") "number_at" (sp_Machine_number_at K) [] E0 (tVar 0) (tCons (tOp rAddI (tVar 4) (tC (.int 4))) (tCons (tC (.int 4)) tNil))) tNil))))) (tIfS (tTest (tOp (rIn K false) (tVar 2) (tTup (tCons (tC (.int 0)) (tCons (tC (.int 1)) (tCons (tC (.int 2)) (tCons (tC (.int 9)) (tCons (tC (.int 10)) tNil)))))))) (tDrop (tMeth (He.ga K "Registers") "write" (sp_Registers_write K) [] E0 (tFld K (tVar 0) "registers") (tCons (tVar 3) (tCons (tMeth (He.ga K "Machine") "load" (sp_Machine_load K) [] E0 (tVar 0) (tCons (tVar 1) (tCons (tVar 2) (tCons (tVar 4) tNil)))) tNil)))) (tIfS (tTest (tOp rEq (tVar 2) (tC (.int 7)))) (tSeq (tDrop (tMeth (He.ga K "Machine") "put" (sp_Machine_put K) [] E0 (tVar 0) (tCons (tVar 4) (tCons (tC (.int 4)) (tCons (tVar 5) tNil)))))
    (tDrop (tMeth (He.ga K "Machine") "put" (sp_Machine_put K) [] E0 (tVar 0) (tCons (tOp rAddI (tVar 4) (tC (.int 4))) (tCons (tC (.int 4)) (tCons (tMeth (He.ga K "Registers") "read" (sp_Registers_read K) [] E0 (tFld K (tVar 0) "registers") (tCons (tOp rAddI (tVar 3) (tC (.int 1))) tNil)) tNil)))))) (tIfS (tTest (tOp (rIn K false) (tVar 2) (tTup (tCons (tC (.int 4)) (tCons (tC (.int 5)) (tCons (tC (.int 6)) tNil)))))) (tDrop (tMeth (He.ga K "Machine") "put" (sp_Machine_put K) [] E0 (tVar 0) (tCons (tVar 4) (tCons (tOp (rSizes K) (tC (.ref (He.ga K "SIZES"))) (tVar 2)) (tCons (tVar 5) tNil))))) (tSeq (tDrop (tMeth (He.ga K "Registers") "write" (sp_Registers_write K) [] E0 (tFld K (tVar 0) "registers") (tCons (tVar 3) (tCons (tMeth (He.ga K "Machine") "number_at" (sp_Machine_number_at K) [] E0 (tVar 0) (tCons (tVar 4) (tCons (tOp (rSizes K) (tC (.ref (He.ga K "SIZES"))) (tVar 2)) tNil))) tNil))))
    (tDrop (tMeth (He.ga K "Machine") "put" (sp_Machine_put K) [] E0 (tVar 0) (tCons (tVar 4) (tCons (tOp (rSizes K) (tC (.ref (He.ga K "SIZES"))) (tVar 2)) (tCons (tIf (tTest (tOp rEq (tVar 2) (tC (.int 13)))) (tC (.int 255)) (tVar 5)) tNil))))))))))
    (tDrop (tMeth (He.ga K "Machine") "go_on" (sp_Machine_go_on K) [] E0 (tVar 0) tNil))))))))
theorem ok_Machine_move (T : Txt K mg) (G_Machine_go_on : MethG P w K mg base CX0 2 (He.ga K "Machine") "go_on" ["self"] (sp_Machine_go_on K)) (G_Machine_number_at : MethG P w K mg base CX0 1 (He.ga K "Machine") "number_at" ["self", "at", "many"] (sp_Machine_number_at K)) (G_Registers_write : MethG P w K mg base CX0 2 (He.ga K "Registers") "write" ["self", "k", "word"] (sp_Registers_write K)) (G_Machine_load : MethG P w K mg base CX0 2 (He.ga K "Machine") "load" ["self", "ins", "op", "at"] (sp_Machine_load K)) (G_Registers_read : MethG P w K mg base CX0 2 (He.ga K "Registers") "read" ["self", "k"] (sp_Registers_read K)) (G_Machine_put : MethG P w K mg base CX0 1 (He.ga K "Machine") "put" ["self", "at", "many", "number"] (sp_Machine_put K)) (Xt : Ex K) (G_Machine_place_for : MethG P w K mg base (L2.CX P w) 4 (He.ga K "Machine") "place_for" ["self", "ins", "size"] (sp_Machine_place_for K)) (G_trap : TrapG P w K mg base) (G_bits_of : CallG P w K mg base CX0 1 "bits_of" ["word", "last", "many"] (sp_bits_of K)) (len : ∀ vs H Q E, sp_Machine_move K vs H Q E → vs.length = 2)
    (pure : ∀ vs H Q E, sp_Machine_move K vs H Q E → t_Machine_move K E { nx := fun _ H' => Q .non H', rt := Q } (start ["self", "ins", "op", "d", "at", "word"] vs) H) : MethG P w K mg base (L2.CX P w) 5 (He.ga K "Machine") "move" ["self", "ins"] (sp_Machine_move K) := by
  obtain ⟨fd, F⟩ := T.d_Machine_move
  refine ⟨_, fd, F.ok sc_Machine_move len (fun cdv A outer s H vs Q E hr h => ⟨t_Machine_move K E, ?_, pure vs H Q E h⟩), T.m_Machine_move, F.bindsN fun _ _ _ _ _ _ us hl => match us, hl with | [_, _], _ => rfl⟩
  exact (pss_cons (ps_set (i := 2) sc_Machine_move.nd rfl (Or.inl rfl) (pc G_bits_of (hr.mono (by decide)) pass0 (by exact (pa_cons (pv 1) (pa_cons pe_int (pa_cons pe_int pa_nil))))))
      (pss_cons (ps_set (i := 3) sc_Machine_move.nd rfl (Or.inl rfl) (pc G_bits_of (hr.mono (by decide)) pass0 (by exact (pa_cons (pv 1) (pa_cons pe_int (pa_cons pe_int pa_nil))))))
      (pss_cons (ps_if (PW.pt (pw_or (pt_cmpR (op_notIn_sizes Xt.sizes) (pv 2) (pe_glob rfl T.g_SIZES rfl) (by with_unfolding_all rfl)) (pw_or1 (PW.pt (pw_and (pt_cmpR op_in_seq (pv 2) (pe_tup (pa_cons pe_int (pa_cons pe_int pa_nil))) (by with_unfolding_all rfl)) (pw_and1 (pt_cmpR op_eq (pe_op op_mod (pv 3) pe_int) pe_int (nomark _)))))))) (pss_one (ps_trap G_trap (hr.mono (by decide)) rfl (takes_of rfl rfl rfl rfl) (by exact (pa_cons (pgi T.i_NO_SUCH) pa_nil)))) pss_nil)
      (pss_cons (ps_set (i := 4) sc_Machine_move.nd rfl (Or.inl rfl) (pm G_Machine_place_for T.cl_Machine (hr.mono (by decide)) (passes_call (takes_of rfl rfl rfl rfl) (fun _ _ _ _ h => h)) (pv 0) (by exact (pa_cons (pv 1) (pa_cons (pe_ix (ix_sizes Xt.sizes) (pe_glob rfl T.g_SIZES rfl) (pv 2) (fun _ _ => rfl)) pa_nil)))))
      (pss_cons (ps_set (i := 5) sc_Machine_move.nd rfl (Or.inl rfl) (pm G_Registers_read T.cl_Registers (hr.mono (by decide)) pass0 (pe_fld (pv 0) rfl) (by exact (pa_cons (pv 3) pa_nil))))
      (pss_cons (ps_if (pt_cmpR op_eq (pv 2) pe_int (nomark _)) (pss_cons (ps_expr (pm G_Registers_write T.cl_Registers (hr.mono (by decide)) pass0 (pe_fld (pv 0) rfl) (by exact (pa_cons (pv 3) (pa_cons (pm G_Machine_number_at T.cl_Machine (hr.mono (by decide)) pass0 (pv 0) (by exact (pa_cons (pv 4) (pa_cons pe_int pa_nil)))) pa_nil)))))
      (pss_one (ps_expr (pm G_Registers_write T.cl_Registers (hr.mono (by decide)) pass0 (pe_fld (pv 0) rfl) (by exact (pa_cons (pe_op op_add (pv 3) pe_int) (pa_cons (pm G_Machine_number_at T.cl_Machine (hr.mono (by decide)) pass0 (pv 0) (by exact (pa_cons (pe_op op_add (pv 4) pe_int) (pa_cons pe_int pa_nil)))) pa_nil))))))) (pss_one (ps_if (pt_cmpR op_in_seq (pv 2) (pe_tup (pa_cons pe_int (pa_cons pe_int (pa_cons pe_int (pa_cons pe_int (pa_cons pe_int pa_nil)))))) (by with_unfolding_all rfl)) (pss_one (ps_expr (pm G_Registers_write T.cl_Registers (hr.mono (by decide)) pass0 (pe_fld (pv 0) rfl) (by exact (pa_cons (pv 3) (pa_cons (pm G_Machine_load T.cl_Machine (hr.mono (by decide)) pass0 (pv 0) (by exact (pa_cons (pv 1) (pa_cons (pv 2) (pa_cons (pv 4) pa_nil))))) pa_nil)))))) (pss_one (ps_if (pt_cmpR op_eq (pv 2) pe_int (nomark _)) (pss_cons (ps_expr (pm G_Machine_put T.cl_Machine (hr.mono (by decide)) pass0 (pv 0) (by exact (pa_cons (pv 4) (pa_cons pe_int (pa_cons (pv 5) pa_nil))))))
      (pss_one (ps_expr (pm G_Machine_put T.cl_Machine (hr.mono (by decide)) pass0 (pv 0) (by exact (pa_cons (pe_op op_add (pv 4) pe_int) (pa_cons pe_int (pa_cons (pm G_Registers_read T.cl_Registers (hr.mono (by decide)) pass0 (pe_fld (pv 0) rfl) (by exact (pa_cons (pe_op op_add (pv 3) pe_int) pa_nil))) pa_nil)))))))) (pss_one (ps_if (pt_cmpR op_in_seq (pv 2) (pe_tup (pa_cons pe_int (pa_cons pe_int (pa_cons pe_int pa_nil)))) (by with_unfolding_all rfl)) (pss_one (ps_expr (pm G_Machine_put T.cl_Machine (hr.mono (by decide)) pass0 (pv 0) (by exact (pa_cons (pv 4) (pa_cons (pe_ix (ix_sizes Xt.sizes) (pe_glob rfl T.g_SIZES rfl) (pv 2) (fun _ _ => rfl)) (pa_cons (pv 5) pa_nil))))))) (pss_cons (ps_expr (pm G_Registers_write T.cl_Registers (hr.mono (by decide)) pass0 (pe_fld (pv 0) rfl) (by exact (pa_cons (pv 3) (pa_cons (pm G_Machine_number_at T.cl_Machine (hr.mono (by decide)) pass0 (pv 0) (by exact (pa_cons (pv 4) (pa_cons (pe_ix (ix_sizes Xt.sizes) (pe_glob rfl T.g_SIZES rfl) (pv 2) (fun _ _ => rfl)) pa_nil)))) pa_nil)))))
      (pss_one (ps_expr (pm G_Machine_put T.cl_Machine (hr.mono (by decide)) pass0 (pv 0) (by exact (pa_cons (pv 4) (pa_cons (pe_ix (ix_sizes Xt.sizes) (pe_glob rfl T.g_SIZES rfl) (pv 2) (fun _ _ => rfl)) (pa_cons (pe_ifExp (pt_cmpR op_eq (pv 2) pe_int (nomark _)) pe_int (pv 5)) pa_nil)))))))))))))))
      (pss_one (ps_expr (pm0 G_Machine_go_on T.cl_Machine (hr.mono (by decide)) pass0 (pv 0))))))))))
theorem sc_Machine_step : FnScope ["self", "ins", "kind"] ["self"] (defScope s_Machine_step) := ⟨rfl, rfl, rfl, by decide +kernel, rfl, by decide +kernel, by decide +kernel⟩
def t_Machine_step (K : PySem.W.Frag) (E : XK) : TS :=
  (tSeq (tIfS (tTest (tOp rGtB (tOp rAddI (tFld K (tVar 0) "place") (tC (.int 4))) (tC (.int 65536)))) (tTrap K (fun cls d _ H => E cls d H) (tCons (tC (.int 1)) tNil)) tNext)
    (tSeq (tAsg (tMeth (He.ga K "Machine") "number_at" (sp_Machine_number_at K) [] E0 (tVar 0) (tCons (tFld K (tVar 0) "place") (tCons (tC (.int 4)) tNil))) (gName 1))
    (tSeq (tAsg (tOp rShrI (tVar 1) (tC (.int 30))) (gName 2))
    (tIfS (tTest (tOp rEq (tVar 2) (tC (.int 0)))) (tDrop (tMeth (He.ga K "Machine") "short" (sp_Machine_short K) [] E (tVar 0) (tCons (tVar 1) tNil))) (tIfS (tTest (tOp rEq (tVar 2) (tC (.int 1)))) (tDrop (tMeth (He.ga K "Machine") "call" (sp_Machine_call K) [] E0 (tVar 0) (tCons (tVar 1) tNil))) (tIfS (tTest (tOp rEq (tVar 2) (tC (.int 2)))) (tDrop (tMeth (He.ga K "Machine") "operate" (sp_Machine_operate K) [] E (tVar 0) (tCons (tVar 1) tNil))) (tDrop (tMeth (He.ga K "Machine") "move" (sp_Machine_move K) [] E (tVar 0) (tCons (tVar 1) tNil)))))))))
theorem ok_Machine_step (T : Txt K mg) (G_Machine_short : MethG P w K mg base (L2.CX P w) 4 (He.ga K "Machine") "short" ["self", "ins"] (sp_Machine_short K)) (G_Machine_call : MethG P w K mg base CX0 3 (He.ga K "Machine") "call" ["self", "ins"] (sp_Machine_call K)) (G_Machine_operate : MethG P w K mg base (L2.CX P w) 8 (He.ga K "Machine") "operate" ["self", "ins"] (sp_Machine_operate K)) (G_Machine_move : MethG P w K mg base (L2.CX P w) 5 (He.ga K "Machine") "move" ["self", "ins"] (sp_Machine_move K)) (G_Machine_number_at : MethG P w K mg base CX0 1 (He.ga K "Machine") "number_at" ["self", "at", "many"] (sp_Machine_number_at K)) (G_trap : TrapG P w K mg base) (len : ∀ vs H Q E, sp_Machine_step K vs H Q E → vs.length = 1)
    (pure : ∀ vs H Q E, sp_Machine_step K vs H Q E → t_Machine_step K E { nx := fun _ H' => Q .non H', rt := Q } (start ["self", "ins", "kind"] vs) H) : MethG P w K mg base (L2.CX P w) 9 (He.ga K "Machine") "step" ["self"] (sp_Machine_step K) := by
  obtain ⟨fd, F⟩ := T.d_Machine_step
  refine ⟨_, fd, F.ok sc_Machine_step len (fun cdv A outer s H vs Q E hr h => ⟨t_Machine_step K E, ?_, pure vs H Q E h⟩), T.m_Machine_step, F.bindsN fun _ _ _ _ _ _ us hl => match us, hl with | [_], _ => rfl⟩
  exact (pss_cons (ps_if (pt_cmpR op_gt (pe_op op_add (pe_fld (pv 0) rfl) pe_int) (pgi T.i_MEMORY) (nomark _)) (pss_one (ps_trap G_trap (hr.mono (by decide)) rfl (takes_of rfl rfl rfl rfl) (by exact (pa_cons (pgi T.i_NOT_WITHIN) pa_nil)))) pss_nil)
      (pss_cons (ps_set (i := 1) sc_Machine_step.nd rfl (Or.inl rfl) (pm G_Machine_number_at T.cl_Machine (hr.mono (by decide)) pass0 (pv 0) (by exact (pa_cons (pe_fld (pv 0) rfl) (pa_cons pe_int pa_nil)))))
      (pss_cons (ps_set (i := 2) sc_Machine_step.nd rfl (Or.inl rfl) (pe_op op_shr (pv 1) pe_int))
      (pss_one (ps_if (pt_cmpR op_eq (pv 2) pe_int (nomark _)) (pss_one (ps_expr (pm G_Machine_short T.cl_Machine (hr.mono (by decide)) (passes_call (takes_of rfl rfl rfl rfl) (fun _ _ _ _ h => h)) (pv 0) (by exact (pa_cons (pv 1) pa_nil))))) (pss_one (ps_if (pt_cmpR op_eq (pv 2) pe_int (nomark _)) (pss_one (ps_expr (pm G_Machine_call T.cl_Machine (hr.mono (by decide)) pass0 (pv 0) (by exact (pa_cons (pv 1) pa_nil))))) (pss_one (ps_if (pt_cmpR op_eq (pv 2) pe_int (nomark _)) (pss_one (ps_expr (pm G_Machine_operate T.cl_Machine (hr.mono (by decide)) (passes_call (takes_of rfl rfl rfl rfl) (fun _ _ _ _ h => h)) (pv 0) (by exact (pa_cons (pv 1) pa_nil))))) (pss_one (ps_expr (pm G_Machine_move T.cl_Machine (hr.mono (by decide)) (passes_call (takes_of rfl rfl rfl rfl) (fun _ _ _ _ h => h)) (pv 0) (by exact (pa_cons (pv 1) pa_nil))))))))))))))
end
end Wd
set_option Elab.async false
set_option linter.all false
set_option maxRecDepth 100000
set_option maxHeartbeats 4000000
namespace Wd
open PySem PySem.Spec PyProof.Rows L2
/-! ### fields -/
section
variable {K : PySem.W.Frag} {mg : Str → Option Value} {A : Ad} {s : Ra24.M} {c : Addr} {H : Hp}
theorem rf_shared : (regF A s).lookup ("shared" : Str) = some (.ref A.sh) := lk_here
theorem rf_windows : (regF A s).lookup ("windows" : Str) = some (.ref A.ws) := (lk_past (by decide +kernel)).trans lk_here
theorem rf_window : (regF A s).lookup ("window" : Str) = some (.int (s.cwp : Int)) := (lk_past (by decide +kernel)).trans ((lk_past (by decide +kernel)).trans lk_here)
theorem rf_mask : (regF A s).lookup ("mask" : Str) = some (.int (s.wim : Int)) := (lk_past (by decide +kernel)).trans ((lk_past (by decide +kernel)).trans ((lk_past (by decide +kernel)).trans lk_here))
theorem rf_none {f : Str} (h : (["shared", "windows", "window", "mask"] : List Str).contains f = false) : (regF A s).lookup f = none := by
  simp only [List.contains_cons, List.contains_nil, Bool.or_false, Bool.or_eq_false_iff] at h
  obtain ⟨h1, h2, h3, h4⟩ := h
  exact (lk_past h1).trans ((lk_past h2).trans ((lk_past h3).trans ((lk_past h4).trans rfl)))
theorem mf_registers : (macF A c s).lookup ("registers" : Str) = some (.ref A.r) := lk_here
theorem mf_y : (macF A c s).lookup ("y" : Str) = some (.int (s.y : Int)) := (lk_past (by decide +kernel)).trans lk_here
theorem mf_conditions : (macF A c s).lookup ("conditions" : Str) = some (.ref c) := (lk_past (by decide +kernel)).trans ((lk_past (by decide +kernel)).trans lk_here)
theorem mf_place : (macF A c s).lookup ("place" : Str) = some (.int (s.pc : Int)) := (lk_past (by decide +kernel)).trans ((lk_past (by decide +kernel)).trans ((lk_past (by decide +kernel)).trans lk_here))
theorem mf_after : (macF A c s).lookup ("after" : Str) = some (.int (s.npc : Int)) := (lk_past (by decide +kernel)).trans ((lk_past (by decide +kernel)).trans ((lk_past (by decide +kernel)).trans ((lk_past (by decide +kernel)).trans lk_here)))
theorem mf_memory : (macF A c s).lookup ("memory" : Str) = some (.ref A.mem) := (lk_past (by decide +kernel)).trans ((lk_past (by decide +kernel)).trans ((lk_past (by decide +kernel)).trans ((lk_past (by decide +kernel)).trans ((lk_past (by decide +kernel)).trans lk_here))))
theorem mf_none {f : Str} (h : (["registers", "y", "conditions", "place", "after", "memory"] : List Str).contains f = false) : (macF A c s).lookup f = none := by
  simp only [List.contains_cons, List.contains_nil, Bool.or_false, Bool.or_eq_false_iff] at h
  obtain ⟨h1, h2, h3, h4, h5, h6⟩ := h
  exact (lk_past h1).trans ((lk_past h2).trans ((lk_past h3).trans ((lk_past h4).trans ((lk_past h5).trans ((lk_past h6).trans rfl)))))
theorem rf_put_window (n : Nat) : putF "window" (.int (n : Int)) (regF A s) = regF A { s with cwp := n } := (put_past (by decide +kernel)).trans (congrArg _ ((put_past (by decide +kernel)).trans (congrArg _ put_here)))
theorem rf_put_mask (n : Nat) : putF "mask" (.int (n : Int)) (regF A s) = regF A { s with wim := n } := (put_past (by decide +kernel)).trans (congrArg _ ((put_past (by decide +kernel)).trans (congrArg _ ((put_past (by decide +kernel)).trans (congrArg _ put_here)))))
theorem mf_put_y (n : Nat) : putF "y" (.int (n : Int)) (macF A c s) = macF A c { s with y := n } := (put_past (by decide +kernel)).trans (congrArg _ put_here)
theorem mf_put_conditions (d : Addr) : putF "conditions" (.ref d) (macF A c s) = macF A d s := (put_past (by decide +kernel)).trans (congrArg _ ((put_past (by decide +kernel)).trans (congrArg _ put_here)))
theorem mf_put_place (n : Nat) : putF "place" (.int (n : Int)) (macF A c s) = macF A c { s with pc := n } := (put_past (by decide +kernel)).trans (congrArg _ ((put_past (by decide +kernel)).trans (congrArg _ ((put_past (by decide +kernel)).trans (congrArg _ put_here)))))
theorem mf_put_after (n : Nat) : putF "after" (.int (n : Int)) (macF A c s) = macF A c { s with npc := n } := (put_past (by decide +kernel)).trans (congrArg _ ((put_past (by decide +kernel)).trans (congrArg _ ((put_past (by decide +kernel)).trans (congrArg _ ((put_past (by decide +kernel)).trans (congrArg _ put_here)))))))
theorem mf_put_memory (p : Addr) : putF "memory" (.ref p) (macF A c s) = macF { A with mem := p } c s := (put_past (by decide +kernel)).trans (congrArg _ ((put_past (by decide +kernel)).trans (congrArg _ ((put_past (by decide +kernel)).trans (congrArg _ ((put_past (by decide +kernel)).trans (congrArg _ ((put_past (by decide +kernel)).trans (congrArg _ put_here)))))))))
/-! ### what stands where -/
theorem ne_il {a b : Addr} {C dx : Addr} {fs : List (Str × V)} {xs : List V} (ha : H a = some (.ins C dx fs)) (hb : H b = some (.lst xs)) : a ≠ b := fun z => by
  rw [z, hb] at ha
  cases ha
theorem ne_ic_mac {i : Ra24.Icc} : icF i ≠ macF A c s := fun z => absurd (Prod.mk.inj (List.cons.inj z).1).1 (by decide +kernel)
theorem ne_ic_reg {i : Ra24.Icc} : icF i ≠ regF A s := fun z => absurd (Prod.mk.inj (List.cons.inj z).1).1 (by decide +kernel)
theorem ne_mac_reg : macF A c s ≠ regF A s := fun z => absurd (Prod.mk.inj (List.cons.inj z).1).1 (by decide +kernel)
theorem ne_ins {a b C C' dx dx' : Addr} {fs gs : List (Str × V)} (ha : H a = some (.ins C dx fs)) (hb : H b = some (.ins C' dx' gs)) (h : fs ≠ gs) : a ≠ b := fun z => by
  rw [z, hb] at ha
  injection ha with ha
  injection ha with _ _ h3
  exact h h3.symm
/-- the machine's own fields change -/
theorem Mach.upd_m (M : Mach K H A s) {s' : Ra24.M} {c' : Addr} (hc : IccAt K H c' s'.icc) (e1 : s'.g = s.g) (e2 : s'.w = s.w) (e3 : s'.cwp = s.cwp) (e4 : s'.wim = s.wim) (e5 : s'.mem = s.mem) (ok : WF s') :
    Mach K (upd H A.m (.ins (He.ga K "Machine") A.dm (macF A c' s'))) A s' := by
  obtain ⟨c, hm, _⟩ := M.m
  obtain ⟨dx, hc⟩ := hc
  have er : regF A s' = regF A s := by unfold regF; rw [e3, e4]
  have es : shL s' = shL s := by unfold shL Ra24.reg; rw [e1, e2, e3]
  have ew : ∀ i, winL s' i = winL s i := fun i => by unfold winL; rw [e2]
  refine ⟨⟨c', upd_same, dx, ?_⟩, ?_, ?_, ?_, fun i hi => ?_, ?_, M.d1, M.d2, M.d3, ok⟩
  · rw [upd_ne (ne_ins hc hm ne_ic_mac)]
    exact hc
  · rw [upd_ne (Ne.symm (ne_ins hm M.r ne_mac_reg)), er]
    exact M.r
  · rw [upd_ne (Ne.symm (ne_il hm M.sh)), es]
    exact M.sh
  · rw [upd_ne (Ne.symm (ne_il hm M.ws))]
    exact M.ws
  · rw [upd_ne (Ne.symm (ne_il hm (M.w i hi))), ew]
    exact M.w i hi
  · rw [upd_ne (Ne.symm (ne_il hm M.me)), e5]
    exact M.me
/-- the registers' own fields change: which window, which mask -/
theorem Mach.upd_r (M : Mach K H A s) {s' : Ra24.M} (e1 : s'.g = s.g) (e2 : s'.w = s.w) (e3 : s'.y = s.y) (e4 : s'.icc = s.icc) (e5 : s'.mem = s.mem) (e6 : s'.pc = s.pc) (e7 : s'.npc = s.npc) (ok : WF s') :
    Mach K (upd H A.r (.ins (He.ga K "Registers") A.dr (regF A s'))) A s' := by
  obtain ⟨c, hm, dx, hc⟩ := M.m
  have em : macF A c s' = macF A c s := by unfold macF; rw [e3, e6, e7]
  have es : shL s' = shL s := tab_congr fun i hi => by
    unfold Ra24.reg
    rw [e1, if_pos hi, if_pos hi]
  have ew : ∀ i, winL s' i = winL s i := fun i => by unfold winL; rw [e2]
  refine ⟨⟨c, ?_, dx, ?_⟩, upd_same, ?_, ?_, fun i hi => ?_, ?_, M.d1, M.d2, M.d3, ok⟩
  · rw [upd_ne (ne_ins hm M.r ne_mac_reg), em]
    exact hm
  · rw [upd_ne (ne_ins hc M.r ne_ic_reg), e4]
    exact hc
  · rw [upd_ne (Ne.symm (ne_il M.r M.sh)), es]
    exact M.sh
  · rw [upd_ne (Ne.symm (ne_il M.r M.ws))]
    exact M.ws
  · rw [upd_ne (Ne.symm (ne_il M.r (M.w i hi))), ew]
    exact M.w i hi
  · rw [upd_ne (Ne.symm (ne_il M.r M.me)), e5]
    exact M.me
/-- a global register -/
theorem Mach.upd_sh (M : Mach K H A s) {k x : Nat} (h0 : 0 < k) (h8 : k < 8) (hx : x < Ra24.W) : Mach K (upd H A.sh (.lst ((shL s).set k (.int (x : Int))))) A { s with g := fun j => if j = k then x else s.g j } := by
  obtain ⟨c, hm, dx, hc⟩ := M.m
  have W := M.ok
  refine ⟨⟨c, ?_, dx, ?_⟩, ?_, ?_, ?_, fun i hi => ?_, ?_, M.d1, M.d2, M.d3, ⟨fun j => ?_, W.w, W.y, W.pc, W.npc, W.cwp, W.mem⟩⟩
  · rw [upd_ne (ne_il hm M.sh)]
    exact hm
  · rw [upd_ne (ne_il hc M.sh)]
    exact hc
  · rw [upd_ne (ne_il M.r M.sh)]
    exact M.r
  · rw [upd_same]
    refine congrArg (fun l => some (HO.lst l)) (tab_set _ _ k x ?_ fun i hi hne => ?_)
    · unfold Ra24.reg
      rw [if_neg (by omega), if_pos h8]
      exact if_pos rfl
    · unfold Ra24.reg
      rw [if_pos hi, if_pos hi]
      by_cases z : i = 0
      · rw [if_pos z, if_pos z]
      · rw [if_neg z, if_neg z]
        exact if_neg hne
  · rw [upd_ne (Ne.symm M.d3.2.1)]
    exact M.ws
  · rw [upd_ne (M.d1 i hi).1]
    exact M.w i hi
  · rw [upd_ne (Ne.symm M.d3.1)]
    exact M.me
  · show (if j = k then x else s.g j) < _
    split
    · exact hx
    · exact W.g j
theorem winIx_inj {i j i' j' : Nat} (hi : i < 8) (hj : j < 16) (hi' : i' < 8) (hj' : j' < 16) (h : winIx i j = winIx i' j') : i = i' ∧ j = j' := by
  unfold winIx at h
  split at h <;> split at h <;> omega
/-- a register of a window -/
theorem Mach.upd_w (M : Mach K H A s) {i j x : Nat} (hi : i < 8) (hj : j < 16) (hx : x < Ra24.W) : Mach K (upd H (A.wa i) (.lst ((winL s i).set j (.int (x : Int))))) A { s with w := fun q => if q = winIx i j then x else s.w q } := by
  obtain ⟨c, hm, dx, hc⟩ := M.m
  have W := M.ok
  refine ⟨⟨c, ?_, dx, ?_⟩, ?_, ?_, ?_, fun i' hi' => ?_, ?_, M.d1, M.d2, M.d3, ⟨W.g, fun q => ?_, W.y, W.pc, W.npc, W.cwp, W.mem⟩⟩
  · rw [upd_ne (ne_il hm (M.w i hi))]
    exact hm
  · rw [upd_ne (ne_il hc (M.w i hi))]
    exact hc
  · rw [upd_ne (ne_il M.r (M.w i hi))]
    exact M.r
  · rw [upd_ne (Ne.symm (M.d1 i hi).1)]
    refine M.sh.trans (congrArg (fun l => some (HO.lst l)) (tab_congr fun k hk => ?_))
    unfold Ra24.reg
    rw [if_pos hk, if_pos hk]
  · rw [upd_ne (Ne.symm (M.d1 i hi).2.2)]
    exact M.ws
  · by_cases e : i' = i
    · subst e
      rw [upd_same]
      refine congrArg (fun l => some (HO.lst l)) (tab_set _ _ j x (if_pos rfl) fun k hk hne => if_neg fun z => hne (winIx_inj hi' hk hi' hj z).2)
    · rw [upd_ne fun z => e (M.d2 i' i hi' hi z), M.w i' hi']
      refine congrArg (fun l => some (HO.lst l)) (tab_congr fun k hk => ?_)
      exact (if_neg fun z => e (winIx_inj hi' hk hi hj z).1).symm
  · rw [upd_ne (Ne.symm (M.d1 i hi).2.1)]
    exact M.me
  · show (if q = winIx i j then x else s.w q) < _
    split
    · exact hx
    · exact W.w q
/-- the memory's list changes by places -/
theorem Mach.upd_mem (M : Mach K H A s) {f : Nat → Nat} (hf : ∀ p, f p < 256) : Mach K (upd H A.mem (.lst (memL f))) A { s with mem := f } := by
  obtain ⟨c, hm, dx, hc⟩ := M.m
  have W := M.ok
  refine ⟨⟨c, ?_, dx, ?_⟩, ?_, ?_, ?_, fun i hi => ?_, upd_same, M.d1, M.d2, M.d3, ⟨W.g, W.w, W.y, W.pc, W.npc, W.cwp, hf⟩⟩
  · rw [upd_ne (ne_il hm M.me)]
    exact hm
  · rw [upd_ne (ne_il hc M.me)]
    exact hc
  · rw [upd_ne (ne_il M.r M.me)]
    exact M.r
  · rw [upd_ne M.d3.1]
    refine M.sh.trans (congrArg (fun l => some (HO.lst l)) (tab_congr fun k hk => ?_))
    unfold Ra24.reg
    rw [if_pos hk]
  · rw [upd_ne (Ne.symm M.d3.2.2)]
    exact M.ws
  · rw [upd_ne (M.d1 i hi).2.1]
    exact M.w i hi
/-! ### registers -/
theorem w3 : (0 : Int) < 8 := by decide
theorem ws_at {i : Nat} (h : i < 8) : (wsL A)[i]? = some (.ref (A.wa i)) := by
  unfold wsL
  simp [h]
theorem row_lt (h : s.cwp < 8) (k : Nat) : rowIx s k < 8 := by
  unfold rowIx
  split <;> omega
theorem col_lt {k : Nat} (h : 8 ≤ k ∧ k < 32) : colIx k < 16 := by
  unfold colIx
  split <;> omega
theorem win_place {k : Nat} (h : s.cwp < 8) (hk : 8 ≤ k ∧ k < 32) : winIx (rowIx s k) (colIx k) = Ra24.place s.cwp k := by
  unfold winIx rowIx colIx Ra24.place
  by_cases c1 : k < 24
  · rw [if_pos c1, if_pos c1]
    by_cases c2 : k < 16
    · rw [if_pos (by omega), if_pos c2]
      omega
    · rw [if_neg (by omega), if_neg c2, if_pos c1]
      omega
  · rw [if_neg c1, if_neg c1, if_pos (by omega), if_neg (by omega), if_neg c1]
    omega
theorem pure_Registers_row_of (T : Txt K mg) : ∀ vs H Q E, sp_Registers_row_of K vs H Q E → t_Registers_row_of K E { nx := fun _ H' => Q .non H', rt := Q } (start ["self", "k"] vs) H := by
  rintro vs H Q E ⟨A, s, k, rfl, M, hk, hQ⟩
  have hc := M.ok.cwp
  unfold rowIx at hQ
  refine ⟨_, rfl, _, _, rfl, rfl, Or.inl ⟨by decide, by decide⟩, _, _, rfl, rfl, _, rfl, iteD (fun c => ?_) fun c => ?_⟩
  · rw [if_pos (show k < 24 by omega)] at hQ
    exact ⟨_, rfl, _, _, _, _, _, rfl, M.r, T.cl_Registers, T.n_Registers_windows, rf_windows, _, rfl, _, _, _, _, _, rfl, M.r, T.cl_Registers, T.n_Registers_window, rf_window, _, _, _, _, rfl, rfl, SqL.of M.ws, atI_nat (ws_at hc), hQ⟩
  · rw [if_neg (show ¬ k < 24 by omega)] at hQ
    exact ⟨_, rfl, _, _, _, _, _, rfl, M.r, T.cl_Registers, T.n_Registers_windows, rf_windows, _, rfl, _, _, _, _, _, rfl, M.r, T.cl_Registers, T.n_Registers_window, rf_window, _, _, rfl, rfl, _, _, rfl, rfl, w3, _, _, ((s.cwp + 1) % 8 : Nat), _, rfl, rfl, SqL.of M.ws, atI_nat (ws_at (Nat.mod_lt _ (by decide))), hQ⟩
theorem pure_Registers_place_of : ∀ vs H Q E, sp_Registers_place_of K vs H Q E → t_Registers_place_of K E { nx := fun _ H' => Q .non H', rt := Q } (start ["self", "k"] vs) H := by
  rintro vs H Q E ⟨x, k, rfl, hk, hQ⟩
  unfold colIx at hQ
  refine ⟨_, rfl, _, _, rfl, rfl, Or.inl ⟨by decide, by decide⟩, _, _, rfl, rfl, _, rfl, iteD (fun c => ?_) fun c => ?_⟩
  · rw [if_pos (show k < 24 by omega)] at hQ
    exact ⟨_, rfl, _, _, rfl, rfl, qint hQ (by omega)⟩
  · rw [if_neg (show ¬ k < 24 by omega)] at hQ
    exact ⟨_, rfl, _, _, rfl, rfl, Or.inl ⟨by decide, by decide⟩, _, _, rfl, rfl, qint hQ (by omega)⟩
theorem pure_Registers_read (T : Txt K mg) : ∀ vs H Q E, sp_Registers_read K vs H Q E → t_Registers_read K E { nx := fun _ H' => Q .non H', rt := Q } (start ["self", "k"] vs) H := by
  rintro vs H Q E ⟨A, s, k, rfl, M, hk, hQ⟩
  have hc := M.ok.cwp
  refine ⟨_, rfl, _, _, rfl, rfl, _, rfl, iteD (fun c => ?_) fun c => ?_⟩
  · exact ⟨_, rfl, _, _, _, _, _, rfl, M.r, T.cl_Registers, T.n_Registers_shared, rf_shared, _, rfl, _, _, _, _, rfl, rfl, SqL.of M.sh, atI_nat (tab_get _ (by omega)), hQ⟩
  · have hk2 : 8 ≤ k ∧ k < 32 := by omega
    refine ⟨_, rfl, _, _, _, rfl, M.r, rf_none (by decide +kernel), _, rfl, A, s, k, rfl, M, hk2, ?_⟩
    refine ⟨_, rfl, _, _, _, rfl, M.r, rf_none (by decide +kernel), _, rfl, _, k, rfl, hk2, ?_⟩
    refine ⟨_, _, _, _, rfl, rfl, SqL.of (M.w _ (row_lt hc k)), atI_nat (tab_get _ (col_lt hk2)), qint hQ ?_⟩
    unfold Ra24.reg
    rw [if_neg (show ¬ k = 0 by omega), if_neg (show ¬ k < 8 by omega), win_place hc hk2]
theorem pure_Registers_write (T : Txt K mg) : ∀ vs H Q E, sp_Registers_write K vs H Q E → t_Registers_write K E { nx := fun _ H' => Q .non H', rt := Q } (start ["self", "k", "word", "row"] vs) H := by
  rintro vs H Q E ⟨A, s, k, z, rfl, M, hk, hQ⟩
  have hc := M.ok.cwp
  have hw := (wrap_cast z).symm
  refine ⟨_, rfl, _, _, rfl, rfl, _, rfl, iteD (fun c => ?_) fun c => ?_⟩
  · have hk2 : 8 ≤ k ∧ k < 32 := by omega
    refine ⟨_, rfl, _, _, _, rfl, M.r, rf_none (by decide +kernel), _, rfl, A, s, k, rfl, M, hk2, ?_⟩
    refine ⟨_, rfl, _, _, rfl, rfl, posW, _, rfl, _, rfl, _, _, _, rfl, M.r, rf_none (by decide +kernel), _, rfl, _, k, rfl, hk2, ?_⟩
    refine ⟨_, _, _, colIx k, rfl, rfl, M.w _ (row_lt hc k), ?_, ?_⟩
    · show ixN (tab 16 _).length (colIx k : Int) = some (colIx k)
      rw [tab_len]
      have := col_lt hk2
      unfold ixN
      rw [if_pos (by omega), if_pos (by omega), Int.toNat_natCast]
    · have M2 := M.upd_w (row_lt hc k) (col_lt hk2) (wrap_lt z)
      have es : Ra24.set s k (Ra24.wrap z) = { s with w := fun q => if q = winIx (rowIx s k) (colIx k) then Ra24.wrap z else s.w q } := by
        unfold Ra24.set
        rw [if_neg (show ¬ k = 0 by omega), if_neg (show ¬ k < 8 by omega), win_place hc hk2]
      rw [← es] at M2
      show Q .non (upd H (A.wa (rowIx s k)) (.lst ((winL s (rowIx s k)).set (colIx k) (.int (z % 4294967296)))))
      rw [hw]
      exact hQ _ M2 (Fr.upd (Or.inr (Or.inr (Or.inr (Or.inr ⟨_, row_lt hc k, rfl⟩)))))
  · refine ⟨_, rfl, _, _, rfl, rfl, _, rfl, iteD (fun c2 => ?_) fun c2 => ?_⟩
    · refine ⟨_, rfl, _, _, rfl, rfl, posW, _, rfl, _, _, _, _, _, rfl, M.r, T.cl_Registers, T.n_Registers_shared, rf_shared, _, rfl, _, _, _, k, rfl, rfl, M.sh, ?_, ?_⟩
      · show ixN (tab 8 _).length (k : Int) = some k
        rw [tab_len]
        unfold ixN
        rw [if_pos (by omega), if_pos (by omega), Int.toNat_natCast]
      · have M2 := M.upd_sh (k := k) (by omega) (by omega) (wrap_lt z)
        have es : Ra24.set s k (Ra24.wrap z) = { s with g := fun j => if j = k then Ra24.wrap z else s.g j } := by
          unfold Ra24.set
          rw [if_neg (show ¬ k = 0 by omega), if_pos (show k < 8 by omega)]
        rw [← es] at M2
        show Q .non (upd H A.sh (.lst ((shL s).set k (.int (z % 4294967296)))))
        rw [hw]
        exact hQ _ M2 (Fr.upd (Or.inr (Or.inr (Or.inl rfl))))
    · have es : Ra24.set s k (Ra24.wrap z) = s := by
        unfold Ra24.set
        rw [if_pos (by omega)]
      rw [es] at hQ
      exact hQ _ M (Fr.refl _ _)
theorem pure_Registers_set_window (T : Txt K mg) : ∀ vs H Q E, sp_Registers_set_window K vs H Q E → t_Registers_set_window K E { nx := fun _ H' => Q .non H', rt := Q } (start ["self", "window"] vs) H := by
  rintro vs H Q E ⟨A, s, z, rfl, M, hQ⟩
  have e : z % 8 = (((z % 8).toNat : Nat) : Int) := by omega
  have W := M.ok
  have M2 := M.upd_r (s' := { s with cwp := (z % 8).toNat }) rfl rfl rfl rfl rfl rfl rfl ⟨W.g, W.w, W.y, W.pc, W.npc, (by show (z % 8).toNat < 8; omega), W.mem⟩
  refine ⟨_, rfl, _, _, rfl, rfl, w3, _, rfl, _, _, _, _, rfl, M.r, T.cl_Registers, T.n_Registers_window, (by show 4 < 1000; decide), ?_⟩
  show Q .non (upd H A.r (.ins (He.ga K "Registers") A.dr (putF "window" (.int (z % 8)) (regF A s))))
  rw [e, rf_put_window]
  exact hQ _ M2 (Fr.upd (Or.inr (Or.inl rfl)))
theorem pure_Registers_set_mask (T : Txt K mg) : ∀ vs H Q E, sp_Registers_set_mask K vs H Q E → t_Registers_set_mask K E { nx := fun _ H' => Q .non H', rt := Q } (start ["self", "mask"] vs) H := by
  rintro vs H Q E ⟨A, s, n, rfl, M, hQ⟩
  have W := M.ok
  have M2 := M.upd_r (s' := { s with wim := n }) rfl rfl rfl rfl rfl rfl rfl ⟨W.g, W.w, W.y, W.pc, W.npc, W.cwp, W.mem⟩
  refine ⟨_, rfl, _, rfl, _, _, _, _, rfl, M.r, T.cl_Registers, T.n_Registers_mask, (by show 4 < 1000; decide), ?_⟩
  show Q .non (upd H A.r (.ins (He.ga K "Registers") A.dr (putF "mask" (.int (n : Int)) (regF A s))))
  rw [rf_put_mask]
  exact hQ _ M2 (Fr.upd (Or.inr (Or.inl rfl)))
theorem pure_Registers_is_barred (T : Txt K mg) : ∀ vs H Q E, sp_Registers_is_barred K vs H Q E → t_Registers_is_barred K E { nx := fun _ H' => Q .non H', rt := Q } (start ["self", "window"] vs) H := by
  rintro vs H Q E ⟨A, s, z, rfl, M, hQ⟩
  refine ⟨_, rfl, _, _, _, _, _, rfl, M.r, T.cl_Registers, T.n_Registers_mask, rf_mask, _, rfl, _, _, rfl, rfl, w3, _, _, rfl, rfl, (show 0 ≤ z % 8 by omega), _, _, rfl, rfl, (show (0 : Int) < 2 by decide), rfl, qbl hQ ?_⟩
  rw [dec_int, Nat.testBit_eq_decide_div_mod_eq]
  refine decide_eq_decide.mpr ?_
  rw [shr_nat]
  omega
end
end Wd
set_option Elab.async false
set_option linter.all false
set_option maxRecDepth 100000
set_option maxHeartbeats 4000000
namespace Wd
open PySem PySem.Spec PyProof.Rows L2
theorem upd_upd {H : Hp} {a : Addr} {x y : HO} : upd (upd H a x) a y = upd H a y := by
  funext b
  by_cases h : b = a
  · subst h
    rw [upd_same, upd_same]
  · rw [upd_ne h, upd_ne h, upd_ne h]
/-! ### mathematics of a machine -/
theorem wrap_nat {n : Nat} (h : n < Ra24.W) : Ra24.wrap (n : Int) = n := by
  have e := wrap_cast (n : Int)
  rw [Wv] at h
  omega
theorem wrap_mod (n : Nat) : Ra24.wrap (n : Int) = n % Ra24.W := by
  have e := wrap_cast (n : Int)
  rw [Wv]
  omega
theorem wrap_eq {a b : Int} (h : a % 4294967296 = b % 4294967296) : Ra24.wrap a = Ra24.wrap b := by
  have e1 := wrap_cast a
  have e2 := wrap_cast b
  omega
/-- a part with its sign, as a word -/
theorem widened_is {p b : Nat} (hb : 1 ≤ b ∧ b ≤ 32) (h : p < 2 ^ b) : psg p b % 4294967296 = (Ra24.widened p b : Int) ∧ Ra24.widened p b < Ra24.W := by
  have e : 2 ^ b = 2 * 2 ^ (b - 1) := by
    have z : b = (b - 1) + 1 := by omega
    rw [z, Nat.pow_succ, Nat.add_sub_cancel, Nat.mul_comm]
  have l : 2 ^ b ≤ 2 ^ 32 := Nat.pow_le_pow_right (by decide) hb.2
  have e32 : (2 : Nat) ^ 32 = 4294967296 := by decide
  have hp : 0 < 2 ^ (b - 1) := Nat.pow_pos (by decide)
  unfold psg Ra24.widened
  rw [Wv]
  generalize hm : 2 ^ (b - 1) = m at *
  generalize hn : 2 ^ b = n at *
  by_cases c : p < m
  · have z : p / m = 0 := Nat.div_eq_of_lt c
    rw [z, if_neg (by decide), if_pos c]
    omega
  · have z : p / m = 1 := Nat.div_eq_of_lt_le (by omega) (by omega)
    rw [z, if_pos rfl, if_neg c]
    omega
theorem field_lt (x hi lo : Nat) : Ra24.field x hi lo < 2 ^ (hi - lo + 1) := Nat.mod_lt _ (Nat.pow_pos (by decide))
theorem reg_lt {s : Ra24.M} (W : WF s) (k : Nat) : Ra24.reg s k < Ra24.W := by
  unfold Ra24.reg
  split
  · rw [Wv]
    decide
  · split
    · exact W.g k
    · exact W.w _
theorem second_lt {s : Ra24.M} (W : WF s) (x : Nat) : Ra24.second s x < Ra24.W := by
  unfold Ra24.second
  split
  · exact (widened_is ⟨by decide, by decide⟩ (field_lt x 12 0)).2
  · exact reg_lt W _
theorem get_succ (s : Ra24.M) (p n : Nat) : Ra24.get s p (n + 1) = Ra24.get s p n * 256 + s.mem (p + n) := rfl
theorem get_lt {s : Ra24.M} (W : WF s) (p : Nat) : ∀ n, Ra24.get s p n < 256 ^ n
  | 0 => by
    show 0 < 1
    decide
  | n + 1 => by
    have h1 := get_lt W p n
    have h2 := W.mem (p + n)
    rw [get_succ, Nat.pow_succ]
    omega
/-- a number's bytes put, so far -/
def putI (s : Ra24.M) (p n x i : Nat) : Ra24.M := { s with mem := fun q => if p ≤ q ∧ q < p + i then x / 256 ^ (n - 1 - (q - p)) % 256 else s.mem q }
theorem putI_zero (s : Ra24.M) (p n x : Nat) : putI s p n x 0 = s := by
  have e : (fun q => if p ≤ q ∧ q < p + 0 then x / 256 ^ (n - 1 - (q - p)) % 256 else s.mem q) = s.mem := funext fun q => if_neg (by omega)
  unfold putI
  rw [e]
theorem putI_all (s : Ra24.M) (p n x : Nat) : putI s p n x n = Ra24.put s p n x := rfl
theorem pow256 (m : Nat) : 2 ^ (8 * m) = 256 ^ m := by rw [Nat.pow_mul]
section
variable {K : PySem.W.Frag} {mg : Str → Option Value} {A : Ad} {s : Ra24.M} {H : Hp}
theorem cut_mem (f : Nat → Nat) {p n : Nat} (h : p + n ≤ 65536) : (cutV (memL f) (some (p : Int)) (some ((p + n : Nat) : Int))).length = n ∧ ∀ i, i < n → (cutV (memL f) (some (p : Int)) (some ((p + n : Nat) : Int)))[i]? = some (.int (f (p + i) : Int)) := by
  unfold cutV
  rw [HT.sIx_nat, HT.sIx_nat]
  unfold memL
  rw [tab_len, Nat.min_eq_left (show p ≤ 65536 by omega), Nat.min_eq_left h]
  refine ⟨?_, fun i hi => ?_⟩
  · rw [List.length_take, List.length_drop, tab_len]
    omega
  · rw [List.getElem?_take_of_lt (by omega), List.getElem?_drop, tab_get _ (by omega)]
theorem pure_Machine_set_y (T : Txt K mg) : ∀ vs H Q E, sp_Machine_set_y K vs H Q E → t_Machine_set_y K E { nx := fun _ H' => Q .non H', rt := Q } (start ["self", "word"] vs) H := by
  rintro vs H Q E ⟨A, s, n, rfl, M, hn, hQ⟩
  obtain ⟨c, hm, hc⟩ := M.m
  have W := M.ok
  have M2 := M.upd_m (s' := { s with y := n }) hc rfl rfl rfl rfl rfl ⟨W.g, W.w, hn, W.pc, W.npc, W.cwp, W.mem⟩
  refine ⟨_, rfl, _, rfl, _, _, _, _, rfl, hm, T.cl_Machine, T.n_Machine_y, (by show 6 < 1000; decide), ?_⟩
  show Q .non (upd H A.m (.ins (He.ga K "Machine") A.dm (putF "y" (.int (n : Int)) (macF A c s))))
  rw [mf_put_y]
  exact hQ _ M2 (Fr.upd (Or.inl rfl))
theorem pure_Machine_set_conditions (T : Txt K mg) : ∀ vs H Q E, sp_Machine_set_conditions K vs H Q E → t_Machine_set_conditions K E { nx := fun _ H' => Q .non H', rt := Q } (start ["self", "conditions"] vs) H := by
  rintro vs H Q E ⟨A, s, p, i, rfl, M, hi, hQ⟩
  obtain ⟨c, hm, hc⟩ := M.m
  have W := M.ok
  have M2 := M.upd_m (s' := { s with icc := i }) (c' := p) hi rfl rfl rfl rfl rfl ⟨W.g, W.w, W.y, W.pc, W.npc, W.cwp, W.mem⟩
  refine ⟨_, rfl, _, rfl, _, _, _, _, rfl, hm, T.cl_Machine, T.n_Machine_conditions, (by show 6 < 1000; decide), ?_⟩
  show Q .non (upd H A.m (.ins (He.ga K "Machine") A.dm (putF "conditions" (.ref p) (macF A c s))))
  rw [mf_put_conditions]
  exact hQ _ M2 (Fr.upd (Or.inl rfl))
theorem pure_Machine_set_places (T : Txt K mg) : ∀ vs H Q E, sp_Machine_set_places K vs H Q E → t_Machine_set_places K E { nx := fun _ H' => Q .non H', rt := Q } (start ["self", "place", "after"] vs) H := by
  rintro vs H Q E ⟨A, s, a, b, rfl, M, hQ⟩
  obtain ⟨c, hm, hc⟩ := M.m
  have W := M.ok
  have M2 := M.upd_m (s' := { s with pc := Ra24.wrap a, npc := Ra24.wrap b }) hc rfl rfl rfl rfl rfl ⟨W.g, W.w, W.y, wrap_lt a, wrap_lt b, W.cwp, W.mem⟩
  refine ⟨_, rfl, _, _, rfl, rfl, posW, _, rfl, _, _, _, _, rfl, hm, T.cl_Machine, T.n_Machine_place, (by show 6 < 1000; decide), ?_⟩
  refine ⟨_, rfl, _, _, rfl, rfl, posW, _, rfl, _, _, _, _, rfl, upd_same, T.cl_Machine, T.n_Machine_after, ?_, ?_⟩
  · show (putF "place" (.int (a % 4294967296)) (macF A c s)).length < 1000
    rw [← wrap_cast, mf_put_place]
    show 6 < 1000
    decide
  · show Q .non (upd (upd H A.m _) A.m (.ins (He.ga K "Machine") A.dm (putF "after" (.int (b % 4294967296)) (putF "place" (.int (a % 4294967296)) (macF A c s)))))
    rw [upd_upd, ← wrap_cast, ← wrap_cast, mf_put_place, mf_put_after]
    exact hQ _ M2 (Fr.upd (Or.inl rfl))
theorem pure_Machine_go_on (T : Txt K mg) : ∀ vs H Q E, sp_Machine_go_on K vs H Q E → t_Machine_go_on K E { nx := fun _ H' => Q .non H', rt := Q } (start ["self"] vs) H := by
  rintro vs H Q E ⟨A, s, rfl, M, hQ⟩
  obtain ⟨c, hm, hc⟩ := M.m
  have W := M.ok
  refine ⟨_, rfl, _, _, _, rfl, hm, mf_none (by decide +kernel), _, rfl, _, _, _, _, _, rfl, hm, T.cl_Machine, T.n_Machine_after, mf_after, _, rfl, _, _, _, _, _, rfl, hm, T.cl_Machine, T.n_Machine_after, mf_after, _, _, rfl, rfl, A, s, _, _, rfl, M, ?_⟩
  have e : ({ s with pc := Ra24.wrap (s.npc : Int), npc := Ra24.wrap ((s.npc : Int) + 4) } : Ra24.M) = Ra24.next s := by
    rw [wrap_nat W.npc, show ((s.npc : Int) + 4) = ((s.npc + 4 : Nat) : Int) by omega, wrap_mod]
    rfl
  rw [e]
  exact hQ
theorem pure_Machine_jump (T : Txt K mg) : ∀ vs H Q E, sp_Machine_jump K vs H Q E → t_Machine_jump K E { nx := fun _ H' => Q .non H', rt := Q } (start ["self", "place"] vs) H := by
  rintro vs H Q E ⟨A, s, t, rfl, M, hQ⟩
  obtain ⟨c, hm, hc⟩ := M.m
  have W := M.ok
  refine ⟨_, rfl, _, _, _, rfl, hm, mf_none (by decide +kernel), _, rfl, _, _, _, _, _, rfl, hm, T.cl_Machine, T.n_Machine_after, mf_after, _, rfl, A, s, _, _, rfl, M, ?_⟩
  have e : ({ s with pc := Ra24.wrap (s.npc : Int), npc := Ra24.wrap t } : Ra24.M) = Ra24.jump s (Ra24.wrap t) := by
    rw [wrap_nat W.npc]
    rfl
  rw [e]
  exact hQ
theorem pure_Machine_number_at (T : Txt K mg) : ∀ vs H Q E, sp_Machine_number_at K vs H Q E → t_Machine_number_at K E { nx := fun _ H' => Q .non H', rt := Q } (start ["self", "at", "many", "found", "byte"] vs) H := by
  rintro vs H Q E ⟨A, s, p, n, rfl, M, ⟨hp, hn⟩, hQ⟩
  obtain ⟨c, hm, hc⟩ := M.m
  obtain ⟨cl, cg⟩ := cut_mem s.mem hp
  refine ⟨_, rfl, _, _, _, _, _, rfl, hm, T.cl_Machine, T.n_Machine_memory, mf_memory, _, rfl, _, rfl, _, rfl, _, rfl, _, _, rfl, rfl, _, rfl, _, _, rfl, SqL.of M.me, fun q hq => ?_⟩
  refine ⟨q, rfl, ⟨_, SqL.of upd_same⟩, for_list (K := K) (a := q) (xs := cutV (memL s.mem) (some (p : Int)) (some ((p + n : Nat) : Int))) (fun i σ H' => H' = upd H q (.lst (cutV (memL s.mem) (some (p : Int)) (some ((p + n : Nat) : Int)))) ∧ ∃ v : Option V, σ = [some (.ref A.m), some (.int (p : Int)), some (.int (n : Int)), some (.int (Ra24.get s p i : Int)), v])
    ⟨rfl, none, rfl⟩ (fun i σ H' _ h => by rw [h.1]; exact SqL.of upd_same) ?_ ?_⟩
  · rintro i x σ H' hx ⟨rfl, v, rfl⟩
    have hi : i < n := by
      have := (List.getElem?_eq_some_iff.mp hx).1
      rw [cl] at this
      exact this
    rw [cg i hi] at hx
    obtain rfl := Option.some.inj hx
    refine ⟨_, rfl, _, _, rfl, rfl, Or.inl ⟨by decide, by decide⟩, _, rfl, _, _, rfl, rfl, rfl, some (.int (s.mem (p + i) : Int)), ?_⟩
    have e : (256 : Int) * (Ra24.get s p i : Int) + (s.mem (p + i) : Int) = (Ra24.get s p (i + 1) : Int) := by
      rw [get_succ]
      omega
    show [some (V.ref A.m), some (.int (p : Int)), some (.int (n : Int)), some (.int ((256 : Int) * (Ra24.get s p i : Int) + (s.mem (p + i) : Int))), some (.int (s.mem (p + i) : Int))] = _
    rw [e]
  · rintro σ H' ⟨rfl, v, rfl⟩
    rw [cl]
    exact ⟨_, rfl, hQ _ (Same.new hq)⟩
theorem pure_Machine_put (T : Txt K mg) : ∀ vs H Q E, sp_Machine_put K vs H Q E → t_Machine_put K E { nx := fun _ H' => Q .non H', rt := Q } (start ["self", "at", "many", "number", "k"] vs) H := by
  rintro vs H Q E ⟨A, s, p, n, x, rfl, M, ⟨hp, hn⟩, hQ⟩
  refine ⟨_, rfl, (n : Int), rfl, by omega, by omega, ?_⟩
  refine for_range (lo := 0) (n := (n : Int).toNat) (fun i σ H' => (∃ v : Option V, σ = [some (.ref A.m), some (.int (p : Int)), some (.int (n : Int)), some (.int (x : Int)), v]) ∧ Mach K H' A (putI s p n x i) ∧ Fr A H H') ⟨⟨none, rfl⟩, by rw [putI_zero]; exact M, Fr.refl _ _⟩ ?_ ?_
  · rintro i σ H' hi ⟨⟨v, rfl⟩, M1, f1⟩
    rw [Int.toNat_natCast] at hi
    obtain ⟨c, hm, hc⟩ := M1.m
    have e8 : (8 : Int) * ((n : Int) - 1 - (0 + (i : Int))) = ((8 * (n - 1 - i) : Nat) : Int) := by omega
    refine ⟨_, rfl, _, rfl, _, _, rfl, rfl, _, rfl, _, _, rfl, rfl, _, _, rfl, rfl, Or.inl ⟨by decide, by decide⟩, _, _, rfl, rfl, ?_, _, _, rfl, rfl, (show (0 : Int) < 256 by decide), ?_⟩
    · show (0 : Int) ≤ 8 * ((n : Int) - 1 - (0 + (i : Int)))
      omega
    · refine ⟨_, rfl, _, _, _, _, _, rfl, hm, T.cl_Machine, T.n_Machine_memory, mf_memory, _, rfl, _, rfl, _, _, rfl, rfl, _, _, _, p + i, rfl, rfl, M1.me, ?_, ?_⟩
      · show ixN (tab 65536 _).length ((p : Int) + (0 + (i : Int))) = some (p + i)
        rw [tab_len]
        unfold ixN
        rw [if_pos (by omega), if_pos (by omega)]
        exact congrArg some (by omega)
      · refine ⟨⟨_, rfl⟩, ?_, f1.trans (Fr.upd (Or.inr (Or.inr (Or.inr (Or.inl rfl)))))⟩
        have ev : (x : Int) / 2 ^ ((8 : Int) * ((n : Int) - 1 - (0 + (i : Int)))).toNat % 256 = ((x / 256 ^ (n - 1 - i) % 256 : Nat) : Int) := by
          rw [e8, Int.toNat_natCast, shr_nat, pow256]
          rfl
        show Mach K (upd H' A.mem (.lst ((memL (putI s p n x i).mem).set (p + i) (.int ((x : Int) / 2 ^ ((8 : Int) * ((n : Int) - 1 - (0 + (i : Int)))).toNat % 256))))) A (putI s p n x (i + 1))
        rw [ev]
        have el : (memL (putI s p n x i).mem).set (p + i) (.int ((x / 256 ^ (n - 1 - i) % 256 : Nat) : Int)) = memL (putI s p n x (i + 1)).mem := by
          refine tab_set _ _ (p + i) _ ?_ fun q hq hne => ?_
          · show (if p ≤ p + i ∧ p + i < p + (i + 1) then x / 256 ^ (n - 1 - (p + i - p)) % 256 else s.mem (p + i)) = _
            rw [if_pos (by omega), Nat.add_sub_cancel_left]
          · show (if p ≤ q ∧ q < p + (i + 1) then x / 256 ^ (n - 1 - (q - p)) % 256 else s.mem q) = if p ≤ q ∧ q < p + i then x / 256 ^ (n - 1 - (q - p)) % 256 else s.mem q
            by_cases h : p ≤ q ∧ q < p + i
            · rw [if_pos h, if_pos (by omega)]
            · rw [if_neg h, if_neg (by omega)]
        rw [el]
        refine M1.upd_mem (f := (putI s p n x (i + 1)).mem) fun q => ?_
        show (if p ≤ q ∧ q < p + (i + 1) then x / 256 ^ (n - 1 - (q - p)) % 256 else s.mem q) < 256
        split
        · exact Nat.mod_lt _ (by decide)
        · exact M.ok.mem q
  · rintro σ H' ⟨⟨v, rfl⟩, M1, f1⟩
    rw [Int.toNat_natCast, putI_all] at M1
    exact hQ _ M1 f1
end
end Wd
set_option Elab.async false
set_option linter.all false
set_option maxRecDepth 100000
set_option maxHeartbeats 4000000
namespace Wd
open PySem PySem.Spec PyProof.Rows L2
section
variable {K : PySem.W.Frag} {mg : Str → Option Value} {A : Ad} {s : Ra24.M} {H : Hp}
theorem field_is (x lo n hi : Nat) (h : hi - lo + 1 = n) : x / 2 ^ lo % 2 ^ n = Ra24.field x hi lo := by
  unfold Ra24.field
  rw [h]
theorem pure_Machine_second (T : Txt K mg) : ∀ vs H Q E, sp_Machine_second K vs H Q E → t_Machine_second K E { nx := fun _ H' => Q .non H', rt := Q } (start ["self", "ins"] vs) H := by
  rintro vs H Q E ⟨A, s, x, rfl, M, hQ⟩
  obtain ⟨c, hm, hc⟩ := M.m
  unfold Ra24.second at hQ
  refine ⟨_, rfl, x, 13, 1, rfl, (by decide), rfl, _, rfl, ?_⟩
  rw [field_is x 13 1 13 rfl]
  refine iteEq (fun c => ?_) fun c => ?_
  · rw [if_pos (by omega)] at hQ
    refine ⟨_, rfl, x, 0, 13, rfl, (by decide), x / 2 ^ 0 % 2 ^ 13, 13, rfl, ⟨by decide, by decide⟩, _, _, rfl, rfl, posW, qint hQ ?_⟩
    rw [field_is x 0 13 12 rfl]
    exact (widened_is ⟨by decide, by decide⟩ (field_lt x 12 0)).1
  · rw [if_neg (by omega)] at hQ
    exact ⟨_, rfl, _, _, _, _, _, rfl, hm, T.cl_Machine, T.n_Machine_registers, mf_registers, _, _, _, rfl, M.r, rf_none (by decide +kernel), _, rfl, x, 0, 5, rfl, (by decide), A, s, _, rfl, M, Nat.mod_lt _ (by decide), hQ⟩
theorem pure_Machine_first (T : Txt K mg) : ∀ vs H Q E, sp_Machine_first K vs H Q E → t_Machine_first K E { nx := fun _ H' => Q .non H', rt := Q } (start ["self", "ins"] vs) H := by
  rintro vs H Q E ⟨A, s, x, rfl, M, hQ⟩
  obtain ⟨c, hm, hc⟩ := M.m
  exact ⟨_, rfl, _, _, _, _, _, rfl, hm, T.cl_Machine, T.n_Machine_registers, mf_registers, _, _, _, rfl, M.r, rf_none (by decide +kernel), _, rfl, x, 14, 5, rfl, (by decide), A, s, _, rfl, M, Nat.mod_lt _ (by decide), hQ⟩
theorem pure_Machine_give (T : Txt K mg) : ∀ vs H Q E, sp_Machine_give K vs H Q E → t_Machine_give K E { nx := fun _ H' => Q .non H', rt := Q } (start ["self", "ins", "word"] vs) H := by
  rintro vs H Q E ⟨A, s, x, z, rfl, M, hQ⟩
  obtain ⟨c, hm, hc⟩ := M.m
  refine ⟨_, rfl, _, _, _, _, _, rfl, hm, T.cl_Machine, T.n_Machine_registers, mf_registers, _, _, _, rfl, M.r, rf_none (by decide +kernel), _, rfl, x, 25, 5, rfl, (by decide), _, rfl, A, s, _, z, rfl, M, Nat.mod_lt _ (by decide), fun H1 M1 f1 => ?_⟩
  obtain ⟨c1, hm1, _⟩ := M1.m
  exact ⟨_, rfl, _, _, _, rfl, hm1, mf_none (by decide +kernel), A, _, rfl, M1, fun H2 M2 f2 => hQ H2 M2 (f1.trans f2)⟩
theorem pure_Machine_call (T : Txt K mg) : ∀ vs H Q E, sp_Machine_call K vs H Q E → t_Machine_call K E { nx := fun _ H' => Q .non H', rt := Q } (start ["self", "ins"] vs) H := by
  rintro vs H Q E ⟨A, s, x, rfl, M, hQ⟩
  obtain ⟨c, hm, hc⟩ := M.m
  refine ⟨_, rfl, _, _, _, _, _, rfl, hm, T.cl_Machine, T.n_Machine_registers, mf_registers, _, _, _, rfl, M.r, rf_none (by decide +kernel), _, rfl, _, _, _, _, _, rfl, hm, T.cl_Machine, T.n_Machine_place, mf_place, A, s, 15, _, rfl, M, (by decide), fun H1 M1 f1 => ?_⟩
  rw [wrap_nat M.ok.pc] at M1
  obtain ⟨c1, hm1, _⟩ := M1.m
  have epc : (Ra24.set s 15 s.pc).pc = s.pc := rfl
  refine ⟨_, rfl, _, _, _, rfl, hm1, mf_none (by decide +kernel), _, rfl, _, _, _, _, _, rfl, hm1, T.cl_Machine, T.n_Machine_place, mf_place, _, rfl, x, 0, 30, rfl, (by decide), _, _, rfl, rfl, Or.inl ⟨by decide, by decide⟩, _, _, rfl, rfl, A, _, _, rfl, M1, fun H2 M2 f2 => hQ H2 ?_ (f1.trans f2)⟩
  have e : Ra24.wrap (((Ra24.set s 15 s.pc).pc : Int) + 4 * ((x / 2 ^ 0 % 2 ^ 30 : Nat) : Int)) = (s.pc + 4 * (x % 2 ^ 30)) % Ra24.W := by
    rw [epc, ← wrap_mod]
    refine congrArg Ra24.wrap ?_
    rw [Nat.pow_zero, Nat.div_one]
    omega
  rw [e] at M2
  exact M2
theorem pure_Machine_branch (T : Txt K mg) : ∀ vs H Q E, sp_Machine_branch K vs H Q E → t_Machine_branch K E { nx := fun _ H' => Q .non H', rt := Q } (start ["self", "ins", "condition", "passing", "place"] vs) H := by
  rintro vs H Q E ⟨A, s, x, rfl, M, hQ⟩
  obtain ⟨c, hm, dx, hc⟩ := M.m
  have wd := widened_is (p := Ra24.field x 21 0) (b := 22) ⟨by decide, by decide⟩ (field_lt x 21 0)
  have et : Ra24.wrap ((s.pc : Int) + 4 * psg (Ra24.field x 21 0) 22) = (s.pc + 4 * Ra24.widened (Ra24.field x 21 0) 22) % Ra24.W := by
    rw [← wrap_mod]
    exact wrap_eq (by omega)
  have et4 : Ra24.wrap ((s.pc : Int) + 4 * psg (Ra24.field x 21 0) 22 + 4) = ((s.pc + 4 * Ra24.widened (Ra24.field x 21 0) 22) % Ra24.W + 4) % Ra24.W := by
    rw [← wrap_mod, ← et, wrap_eq]
    have := wrap_cast ((s.pc : Int) + 4 * psg (Ra24.field x 21 0) 22)
    omega
  have eb : Ra24.branch s x = (if Ra24.holds s.icc (Ra24.field x 28 25) = true then (if Ra24.field x 28 25 = 8 ∧ (Ra24.field x 29 29 == 1) = true then { s with pc := (s.pc + 4 * Ra24.widened (Ra24.field x 21 0) 22) % Ra24.W, npc := ((s.pc + 4 * Ra24.widened (Ra24.field x 21 0) 22) % Ra24.W + 4) % Ra24.W } else Ra24.jump s ((s.pc + 4 * Ra24.widened (Ra24.field x 21 0) 22) % Ra24.W))
    else if (Ra24.field x 29 29 == 1) = true then { s with pc := (s.npc + 4) % Ra24.W, npc := (s.npc + 8) % Ra24.W } else Ra24.next s) := rfl
  rw [eb] at hQ
  refine ⟨_, rfl, x, 25, 4, rfl, (by decide), ?_⟩
  refine ⟨_, rfl, x, 29, 1, rfl, (by decide), rfl, ?_⟩
  refine ⟨_, rfl, _, _, _, _, _, rfl, hm, T.cl_Machine, T.n_Machine_place, mf_place, _, rfl, x, 0, 22, rfl, (by decide), x / 2 ^ 0 % 2 ^ 22, 22, rfl, ⟨by decide, by decide⟩, _, _, rfl, rfl, Or.inl ⟨by decide, by decide⟩, _, _, rfl, rfl, ?_⟩
  rw [field_is x 25 4 28 rfl, field_is x 0 22 21 rfl]
  have es : decide (V.int ((x / 2 ^ 29 % 2 ^ 1 : Nat) : Int) = V.int 1) = (Ra24.field x 29 29 == 1) := by
    rw [field_is x 29 1 29 rfl, dec_int]
    by_cases z : Ra24.field x 29 29 = 1
    · rw [z]
      rfl
    · rw [decide_eq_false (by omega)]
      exact (beq_eq_false_iff_ne.mpr z).symm
  rw [es]
  refine ⟨_, rfl, _, _, _, _, _, rfl, hm, T.cl_Machine, T.n_Machine_conditions, mf_conditions, _, dx, _, rfl, hc, ic_none _ (by decide +kernel), _, rfl, c, s.icc, Ra24.field x 28 25, rfl, ⟨dx, hc⟩, field_lt x 28 25, fun H1 s1 => ?_⟩
  have M1 := M.mono s1
  have hm1 := s1 _ _ hm
  refine ⟨_, rfl, iteB (fun c1 => ?_) fun c1 => ?_⟩
  · rw [if_pos c1] at hQ
    by_cases ck : Ra24.field x 28 25 = 8 ∧ (Ra24.field x 29 29 == 1) = true
    · rw [if_pos ck] at hQ
      refine ⟨_, rfl, rfl, _, rfl, iteEq (fun _ => ?_) fun z => absurd (by omega) z⟩
      refine ⟨_, rfl, _, rfl, iteB (fun _ => ?_) fun z => absurd ck.2 (by rw [z]; decide)⟩
      refine ⟨_, rfl, _, _, _, rfl, hm1, mf_none (by decide +kernel), _, rfl, _, rfl, _, _, rfl, rfl, A, s, _, _, rfl, M1, ?_⟩
      rw [et, et4]
      exact fun H2 M2 f2 => hQ H2 M2 ((Fr.same s1).trans f2)
    · rw [if_neg ck] at hQ
      have go : (tDrop (tMeth (He.ga K "Machine") "jump" (sp_Machine_jump K) [] E0 (tVar 0) (tCons (tVar 4) tNil))) { nx := fun _ H' => Q .non H', rt := Q } [some (.ref A.m), some (.int (x : Int)), some (.int (Ra24.field x 28 25 : Int)), some (.bl (Ra24.field x 29 29 == 1)), some (.int ((s.pc : Int) + 4 * psg (Ra24.field x 21 0) 22))] H1 := by
        refine ⟨_, rfl, _, _, _, rfl, hm1, mf_none (by decide +kernel), _, rfl, A, s, _, rfl, M1, ?_⟩
        rw [et]
        exact fun H2 M2 f2 => hQ H2 M2 ((Fr.same s1).trans f2)
      refine ⟨_, rfl, rfl, _, rfl, iteEq (fun h8 => ?_) fun z => iteF go⟩
      exact ⟨_, rfl, _, rfl, iteB (fun h1 => absurd ⟨by omega, h1⟩ ck) fun z => go⟩
  · rw [c1, if_neg Bool.false_ne_true] at hQ
    refine ⟨_, rfl, _, rfl, iteB (fun h1 => ?_) fun h1 => ?_⟩
    · rw [if_pos h1] at hQ
      refine ⟨_, rfl, _, _, _, rfl, hm1, mf_none (by decide +kernel), _, rfl, _, _, _, _, _, rfl, hm1, T.cl_Machine, T.n_Machine_after, mf_after, _, _, rfl, rfl, _, rfl, _, _, _, _, _, rfl, hm1, T.cl_Machine, T.n_Machine_after, mf_after, _, _, rfl, rfl, A, s, _, _, rfl, M1, ?_⟩
      rw [show ((s.npc : Int) + 4) = ((s.npc + 4 : Nat) : Int) by omega, show ((s.npc : Int) + 8) = ((s.npc + 8 : Nat) : Int) by omega, wrap_mod, wrap_mod]
      exact fun H2 M2 f2 => hQ H2 M2 ((Fr.same s1).trans f2)
    · rw [h1, if_neg Bool.false_ne_true] at hQ
      exact ⟨_, rfl, _, _, _, rfl, hm1, mf_none (by decide +kernel), A, s, rfl, M1, fun H2 M2 f2 => hQ H2 M2 ((Fr.same s1).trans f2)⟩
theorem pure_Machine_short (T : Txt K mg) : ∀ vs H Q E, sp_Machine_short K vs H Q E → t_Machine_short K E { nx := fun _ H' => Q .non H', rt := Q } (start ["self", "ins", "kind"] vs) H := by
  rintro vs H Q E ⟨A, s, x, rfl, M, hQ⟩
  obtain ⟨c, hm, hc⟩ := M.m
  unfold shortOf at hQ
  refine ⟨_, rfl, x, 22, 3, rfl, (by decide), ?_⟩
  rw [field_is x 22 3 24 rfl]
  refine ⟨_, rfl, rfl, _, rfl, iteEq (fun h => ?_) fun h => ?_⟩
  · rw [if_neg (show ¬ Ra24.field x 24 22 = 2 by omega), if_pos (show Ra24.field x 24 22 = 4 by omega)] at hQ
    refine ⟨_, rfl, _, _, _, rfl, hm, mf_none (by decide +kernel), _, rfl, _, rfl, x, 0, 22, rfl, (by decide), _, _, rfl, rfl, Or.inl ⟨by decide, by decide⟩, A, s, x, _, rfl, M, ?_⟩
    have e : Ra24.wrap ((1024 : Int) * ((x / 2 ^ 0 % 2 ^ 22 : Nat) : Int)) = x % 2 ^ 22 * 1024 := by
      have e22 : (2 : Nat) ^ 22 = 4194304 := by decide
      rw [Nat.pow_zero, Nat.div_one, e22, show (1024 : Int) * ((x % 4194304 : Nat) : Int) = ((x % 4194304 * 1024 : Nat) : Int) by omega]
      exact wrap_nat (by rw [Wv]; omega)
    rw [e]
    exact hQ
  · refine ⟨_, rfl, rfl, _, rfl, iteEq (fun h2 => ?_) fun h2 => ?_⟩
    · rw [if_pos (show Ra24.field x 24 22 = 2 by omega)] at hQ
      exact ⟨_, rfl, _, _, _, rfl, hm, mf_none (by decide +kernel), _, rfl, A, s, x, rfl, M, hQ⟩
    · rw [if_neg (show ¬ Ra24.field x 24 22 = 2 by omega), if_neg (show ¬ Ra24.field x 24 22 = 4 by omega)] at hQ
      exact ⟨2, rfl, fun d H' s hd => hQ d H' s hd⟩
theorem pure_Machine_place_for (T : Txt K mg) : ∀ vs H Q E, sp_Machine_place_for K vs H Q E → t_Machine_place_for K E { nx := fun _ H' => Q .non H', rt := Q } (start ["self", "ins", "size", "at"] vs) H := by
  rintro vs H Q E ⟨A, s, x, n, rfl, M, ⟨hn0, hn8⟩, hQ⟩
  obtain ⟨c, hm, hc⟩ := M.m
  refine ⟨_, rfl, _, _, _, rfl, hm, mf_none (by decide +kernel), _, rfl, A, s, x, rfl, M, _, rfl, _, _, _, rfl, hm, mf_none (by decide +kernel), _, rfl, A, s, x, rfl, M, _, _, rfl, rfl, _, _, rfl, rfl, posW, ?_⟩
  have e : ((Ra24.reg s (Ra24.field x 18 14) : Int) + (Ra24.second s x : Int)) % 4294967296 = (placeOf s x : Int) := rfl
  refine ⟨_, rfl, _, rfl, _, _, rfl, rfl, (show (0 : Int) < (n : Int) by omega), rfl, _, rfl, ?_⟩
  rw [e]
  refine iteNeq (fun h => ?_) fun h => ?_
  · have h' : ¬ ((placeOf s x % n : Nat) : Int) = 0 := h
    rw [if_pos (show placeOf s x % n ≠ 0 by omega)] at hQ
    exact ⟨7, rfl, fun d H' s hd => hQ d H' s hd⟩
  · have h' : ((placeOf s x % n : Nat) : Int) = 0 := h
    rw [if_neg (show ¬ placeOf s x % n ≠ 0 by omega)] at hQ
    refine ⟨_, rfl, _, rfl, _, _, rfl, rfl, _, _, rfl, rfl, _, rfl, iteD (fun h2 => ?_) fun h2 => ?_⟩
    · rw [if_pos (show 65536 < placeOf s x + n by omega)] at hQ
      exact ⟨9, rfl, fun d H' s hd => hQ d H' s hd⟩
    · rw [if_neg (show ¬ 65536 < placeOf s x + n by omega)] at hQ
      exact ⟨_, rfl, hQ⟩
theorem pure_Machine_load (T : Txt K mg) : ∀ vs H Q E, sp_Machine_load K vs H Q E → t_Machine_load K E { nx := fun _ H' => Q .non H', rt := Q } (start ["self", "ins", "op", "at", "size", "found"] vs) H := by
  rintro vs H Q E ⟨A, s, x, op, p, n, rfl, M, hl, ⟨hp, hn0, hn8⟩, hQ⟩
  obtain ⟨c, hm, hc⟩ := M.m
  refine ⟨_, rfl, (op : Int), (n : Int), rfl, rfl, hl, ?_⟩
  refine ⟨_, rfl, _, _, _, rfl, hm, mf_none (by decide +kernel), _, rfl, _, rfl, A, s, p, n, rfl, M, ⟨hp, hn8⟩, fun H1 s1 => ?_⟩
  have q := hQ H1 s1
  refine ⟨_, rfl, _, _, rfl, rfl, _, rfl, iteD (fun h => ?_) fun h => ?_⟩
  · rw [if_pos (show 9 ≤ op by omega)] at q
    exact ⟨_, rfl, _, rfl, _, _, rfl, rfl, Or.inl ⟨by decide, by decide⟩, Ra24.get s p n, 8 * n, rfl, ⟨by omega, by omega⟩, q⟩
  · rw [if_neg (show ¬ 9 ≤ op by omega)] at q
    exact ⟨_, rfl, q⟩
end
end Wd
set_option Elab.async false
set_option linter.all false
set_option maxRecDepth 100000
set_option maxHeartbeats 4000000
namespace Wd
open PySem PySem.Spec PyProof.Rows L2
/-! ### mathematics: an operation by its number -/
theorem arith_56 {s : Ra24.M} {x : Nat} (h : Ra24.field x 24 19 = 56) : Ra24.arith s x = if placeOf s x % 4 ≠ 0 then .error 7 else .ok (Ra24.jump (Ra24.set s (Ra24.field x 29 25) s.pc) (placeOf s x)) := by
  unfold Ra24.arith
  rw [h]
  rfl
theorem arith_58 {s : Ra24.M} {x : Nat} (h : Ra24.field x 24 19 = 58) : Ra24.arith s x = if Ra24.holds s.icc (Ra24.field x 28 25) = true then .error (128 + (Ra24.reg s (Ra24.field x 18 14) + Ra24.second s x) % 128) else .ok (Ra24.next s) := by
  unfold Ra24.arith
  rw [h]
  rfl
theorem arith_59 {s : Ra24.M} {x : Nat} (h : Ra24.field x 24 19 = 59) : Ra24.arith s x = .ok (Ra24.next s) := by
  unfold Ra24.arith
  rw [h]
  rfl
theorem arith_60 {s : Ra24.M} {x : Nat} (h : Ra24.field x 24 19 = 60) : Ra24.arith s x = if s.wim.testBit ((s.cwp + 7) % 8) = true then .error 5 else .ok (Ra24.next (Ra24.set { s with cwp := (s.cwp + 7) % 8 } (Ra24.field x 29 25) (placeOf s x))) := by
  unfold Ra24.arith
  rw [h]
  rfl
theorem arith_61 {s : Ra24.M} {x : Nat} (h : Ra24.field x 24 19 = 61) : Ra24.arith s x = if s.wim.testBit ((s.cwp + 1) % 8) = true then .error 6 else .ok (Ra24.next (Ra24.set { s with cwp := (s.cwp + 1) % 8 } (Ra24.field x 29 25) (placeOf s x))) := by
  unfold Ra24.arith
  rw [h]
  rfl
theorem arith_other {s : Ra24.M} {x : Nat} (h : 48 < Ra24.field x 24 19) (n1 : Ra24.field x 24 19 ≠ 56) (n2 : Ra24.field x 24 19 ≠ 58) (n3 : Ra24.field x 24 19 ≠ 59) (n4 : Ra24.field x 24 19 ≠ 60) (n5 : Ra24.field x 24 19 ≠ 61) : Ra24.arith s x = .error 2 := by
  have hl := field_lt x 24 19
  unfold Ra24.arith
  have e : (2 : Nat) ^ (24 - 19 + 1) = 64 := by decide
  rw [e] at hl
  generalize Ra24.field x 24 19 = op at *
  have z : op = 49 ∨ op = 50 ∨ op = 51 ∨ op = 52 ∨ op = 53 ∨ op = 54 ∨ op = 55 ∨ op = 57 ∨ op = 62 ∨ op = 63 := by omega
  rcases z with z | z | z | z | z | z | z | z | z | z <;> subst z <;> rfl
section
variable {K : PySem.W.Frag} {mg : Str → Option Value} {A : Ad} {s : Ra24.M} {H : Hp}
theorem pure_Machine_jump_away (T : Txt K mg) : ∀ vs H Q E, sp_Machine_jump_away K vs H Q E → t_Machine_jump_away K E { nx := fun _ H' => Q .non H', rt := Q } (start ["self", "ins", "place"] vs) H := by
  rintro vs H Q E ⟨A, s, x, rfl, M, hop, hQ⟩
  obtain ⟨c, hm, hc⟩ := M.m
  rw [arith_56 hop] at hQ
  refine ⟨_, rfl, _, _, _, rfl, hm, mf_none (by decide +kernel), _, rfl, A, s, x, rfl, M, _, rfl, _, _, _, rfl, hm, mf_none (by decide +kernel), _, rfl, A, s, x, rfl, M, _, _, rfl, rfl, _, _, rfl, rfl, posW, ?_⟩
  have e : ((Ra24.reg s (Ra24.field x 18 14) : Int) + (Ra24.second s x : Int)) % 4294967296 = (placeOf s x : Int) := rfl
  refine ⟨_, rfl, _, _, rfl, rfl, (show (0 : Int) < 4 by decide), rfl, _, rfl, iteNeq (fun h => ?_) fun h => ?_⟩
  · have h' : ¬ ((placeOf s x % 4 : Nat) : Int) = 0 := h
    rw [if_pos (show placeOf s x % 4 ≠ 0 by omega)] at hQ
    exact ⟨7, rfl, fun d H' s hd => hQ d H' s hd⟩
  · have h' : ((placeOf s x % 4 : Nat) : Int) = 0 := h
    rw [if_neg (show ¬ placeOf s x % 4 ≠ 0 by omega)] at hQ
    refine ⟨_, rfl, _, _, _, _, _, rfl, hm, T.cl_Machine, T.n_Machine_registers, mf_registers, _, _, _, rfl, M.r, rf_none (by decide +kernel), _, rfl, x, 25, 5, rfl, (by decide), _, rfl, _, _, _, _, _, rfl, hm, T.cl_Machine, T.n_Machine_place, mf_place, A, s, _, _, rfl, M, Nat.mod_lt _ (by decide), fun H1 M1 f1 => ?_⟩
    rw [wrap_nat M.ok.pc] at M1
    obtain ⟨c1, hm1, _⟩ := M1.m
    refine ⟨_, rfl, _, _, _, rfl, hm1, mf_none (by decide +kernel), _, rfl, A, _, _, rfl, M1, fun H2 M2 f2 => hQ H2 ?_ (f1.trans f2)⟩
    have ew : Ra24.wrap (((Ra24.reg s (Ra24.field x 18 14) : Int) + (Ra24.second s x : Int)) % 4294967296) = placeOf s x := by
      rw [e]
      exact wrap_nat (Nat.mod_lt _ (by rw [Wv]; decide))
    have M3 : Mach K H2 A (Ra24.jump (Ra24.set s (x / 2 ^ 25 % 2 ^ 5) s.pc) (Ra24.wrap (((Ra24.reg s (Ra24.field x 18 14) : Int) + (Ra24.second s x : Int)) % 4294967296))) := M2
    rw [ew] at M3
    exact M3
theorem pure_Machine_ask_trap (T : Txt K mg) : ∀ vs H Q E, sp_Machine_ask_trap K vs H Q E → t_Machine_ask_trap K E { nx := fun _ H' => Q .non H', rt := Q } (start ["self", "ins"] vs) H := by
  rintro vs H Q E ⟨A, s, x, rfl, M, hop, hQ⟩
  obtain ⟨c, hm, dx, hc⟩ := M.m
  rw [arith_58 hop] at hQ
  refine ⟨_, rfl, _, _, _, _, _, rfl, hm, T.cl_Machine, T.n_Machine_conditions, mf_conditions, _, dx, _, rfl, hc, ic_none _ (by decide +kernel), _, rfl, x, 25, 4, rfl, (by decide), c, s.icc, Ra24.field x 28 25, rfl, ⟨dx, hc⟩, field_lt x 28 25, fun H1 s1 => ?_⟩
  have M1 := M.mono s1
  have hm1 := s1 _ _ hm
  refine ⟨_, rfl, iteB (fun h => ?_) fun h => ?_⟩
  · rw [if_pos h] at hQ
    refine ⟨_, rfl, _, _, _, rfl, hm1, mf_none (by decide +kernel), _, rfl, A, s, x, rfl, M1, _, rfl, _, _, _, rfl, hm1, mf_none (by decide +kernel), _, rfl, A, s, x, rfl, M1, _, _, rfl, rfl, _, _, rfl, rfl, (show (0 : Int) < 128 by decide), _, _, rfl, rfl, _, rfl, fun d H' s2 hd => hQ d H' (s1.trans s2) hd⟩
  · rw [h, if_neg Bool.false_ne_true] at hQ
    exact ⟨_, rfl, _, _, _, rfl, hm1, mf_none (by decide +kernel), A, s, rfl, M1, fun H2 M2 f2 => hQ H2 M2 ((Fr.same s1).trans f2)⟩
theorem pure_Machine_turn_window (T : Txt K mg) : ∀ vs H Q E, sp_Machine_turn_window K vs H Q E → t_Machine_turn_window K E { nx := fun _ H' => Q .non H', rt := Q } (start ["self", "ins", "more", "trap", "window", "word"] vs) H := by
  rintro vs H Q E ⟨A, s, x, more, trap, rfl, M, hop, hQ⟩
  obtain ⟨c, hm, hc⟩ := M.m
  obtain ⟨t, nw, ht, hnw, hQ2⟩ : ∃ t nw : Nat, trap = (t : Int) ∧ nw = (((s.cwp : Int) + more) % 8).toNat ∧
      GoOut K H A Q E (if s.wim.testBit nw = true then .error t else .ok (Ra24.next (Ra24.set { s with cwp := nw } (Ra24.field x 29 25) (placeOf s x)))) := by
    rcases hop with ⟨h1, h2, h3⟩ | ⟨h1, h2, h3⟩
    · rw [arith_60 h1] at hQ
      exact ⟨5, _, h3, by omega, hQ⟩
    · rw [arith_61 h1] at hQ
      exact ⟨6, _, h3, by omega, hQ⟩
  subst ht
  refine ⟨_, rfl, _, _, _, _, _, rfl, hm, T.cl_Machine, T.n_Machine_registers, mf_registers, _, _, _, _, _, rfl, M.r, T.cl_Registers, T.n_Registers_window, rf_window, _, rfl, _, _, rfl, rfl, ?_⟩
  refine ⟨_, rfl, _, _, _, _, _, rfl, hm, T.cl_Machine, T.n_Machine_registers, mf_registers, _, _, _, rfl, M.r, rf_none (by decide +kernel), _, rfl, A, s, _, rfl, M, ?_⟩
  rw [← hnw]
  refine ⟨_, rfl, iteB (fun h => ?_) fun h => ?_⟩
  · rw [if_pos h] at hQ2
    exact ⟨_, rfl, _, rfl, fun d H' s hd => hQ2 d H' s hd⟩
  · rw [h, if_neg Bool.false_ne_true] at hQ2
    refine ⟨_, rfl, _, _, _, rfl, hm, mf_none (by decide +kernel), _, rfl, A, s, x, rfl, M, _, rfl, _, _, _, rfl, hm, mf_none (by decide +kernel), _, rfl, A, s, x, rfl, M, _, _, rfl, rfl, ?_⟩
    refine ⟨_, rfl, _, _, _, _, _, rfl, hm, T.cl_Machine, T.n_Machine_registers, mf_registers, _, _, _, rfl, M.r, rf_none (by decide +kernel), _, rfl, A, s, _, rfl, M, ?_⟩
    rw [← hnw]
    intro H1 M1 f1
    obtain ⟨c1, hm1, _⟩ := M1.m
    refine ⟨_, rfl, _, _, _, rfl, hm1, mf_none (by decide +kernel), _, rfl, _, rfl, A, _, x, _, rfl, M1, ?_⟩
    have ew : Ra24.wrap ((Ra24.reg s (Ra24.field x 18 14) : Int) + (Ra24.second s x : Int)) = placeOf s x := wrap_mod (Ra24.reg s (Ra24.field x 18 14) + Ra24.second s x)
    rw [ew]
    exact fun H2 M2 f2 => hQ2 H2 M2 (f1.trans f2)
theorem pure_Machine_operate (T : Txt K mg) : ∀ vs H Q E, sp_Machine_operate K vs H Q E → t_Machine_operate K E { nx := fun _ H' => Q .non H', rt := Q } (start ["self", "ins", "op"] vs) H := by
  rintro vs H Q E ⟨A, s, x, rfl, M, _, hQ⟩
  obtain ⟨c, hm, hc⟩ := M.m
  refine ⟨_, rfl, x, 19, 6, rfl, (by decide), ?_⟩
  rw [field_is x 19 6 24 rfl]
  refine ⟨_, rfl, _, _, rfl, rfl, _, rfl, iteD (fun h => ?_) fun h => ?_⟩
  · exact ⟨_, rfl, _, _, _, rfl, hm, mf_none (by decide +kernel), _, rfl, _, rfl, A, s, x, rfl, M, (show Ra24.field x 24 19 < 32 by omega), hQ⟩
  refine ⟨_, rfl, _, _, rfl, rfl, _, rfl, iteD (fun h2 => ?_) fun h2 => ?_⟩
  · exact ⟨_, rfl, _, _, _, rfl, hm, mf_none (by decide +kernel), _, rfl, _, rfl, A, s, x, rfl, M, ⟨by omega, by omega⟩, hQ⟩
  refine ⟨_, rfl, rfl, _, rfl, iteEq (fun h3 => ?_) fun h3 => ?_⟩
  · exact ⟨_, rfl, _, _, _, rfl, hm, mf_none (by decide +kernel), _, rfl, A, s, x, rfl, M, (show Ra24.field x 24 19 = 56 by omega), hQ⟩
  refine ⟨_, rfl, rfl, _, rfl, iteEq (fun h4 => ?_) fun h4 => ?_⟩
  · exact ⟨_, rfl, _, _, _, rfl, hm, mf_none (by decide +kernel), _, rfl, A, s, x, rfl, M, (show Ra24.field x 24 19 = 58 by omega), hQ⟩
  refine ⟨_, rfl, rfl, _, rfl, iteEq (fun h5 => ?_) fun h5 => ?_⟩
  · rw [arith_59 (by omega)] at hQ
    exact ⟨_, rfl, _, _, _, rfl, hm, mf_none (by decide +kernel), A, s, rfl, M, hQ⟩
  refine ⟨_, rfl, rfl, _, rfl, iteEq (fun h6 => ?_) fun h6 => ?_⟩
  · exact ⟨_, rfl, _, _, _, rfl, hm, mf_none (by decide +kernel), _, rfl, _, rfl, A, s, x, -1, 5, rfl, M, Or.inl ⟨by omega, rfl, rfl⟩, hQ⟩
  refine ⟨_, rfl, rfl, _, rfl, iteEq (fun h7 => ?_) fun h7 => ?_⟩
  · exact ⟨_, rfl, _, _, _, rfl, hm, mf_none (by decide +kernel), _, rfl, A, s, x, 1, 6, rfl, M, Or.inr ⟨by omega, rfl, rfl⟩, hQ⟩
  · rw [arith_other (by omega) (by omega) (by omega) (by omega) (by omega) (by omega)] at hQ
    exact ⟨2, rfl, fun d H' s hd => hQ d H' s hd⟩
theorem pure_Machine_step (T : Txt K mg) : ∀ vs H Q E, sp_Machine_step K vs H Q E → t_Machine_step K E { nx := fun _ H' => Q .non H', rt := Q } (start ["self", "ins", "kind"] vs) H := by
  rintro vs H Q E ⟨A, s, rfl, M, hQ⟩
  obtain ⟨c, hm, hc⟩ := M.m
  have eM : Ra24.MEMORY = 65536 := rfl
  unfold Ra24.step at hQ
  rw [eM] at hQ
  refine ⟨_, rfl, _, _, _, _, _, rfl, hm, T.cl_Machine, T.n_Machine_place, mf_place, _, _, rfl, rfl, _, _, rfl, rfl, _, rfl, iteD (fun h => ?_) fun h => ?_⟩
  · rw [if_pos (show 65536 < s.pc + 4 by omega)] at hQ
    exact ⟨1, rfl, fun d H' s hd => hQ d H' s hd⟩
  rw [if_neg (show ¬ 65536 < s.pc + 4 by omega)] at hQ
  refine ⟨_, rfl, _, _, _, rfl, hm, mf_none (by decide +kernel), _, rfl, _, _, _, _, _, rfl, hm, T.cl_Machine, T.n_Machine_place, mf_place, A, s, s.pc, 4, rfl, M, ⟨by omega, by decide⟩, fun H1 s1 => ?_⟩
  have M1 := M.mono s1
  have hm1 := s1 _ _ hm
  have hl := get_lt M.ok s.pc 4
  have e256 : (256 : Nat) ^ 4 = 4294967296 := by decide
  rw [e256] at hl
  have q1 : GoOut K H1 A Q E (match Ra24.get s s.pc 4 / 2 ^ 30 with
    | 1 => .ok (Ra24.jump (Ra24.set s 15 s.pc) ((s.pc + 4 * (Ra24.get s s.pc 4 % 2 ^ 30)) % Ra24.W))
    | 0 => shortOf s (Ra24.get s s.pc 4)
    | 2 => Ra24.arith s (Ra24.get s s.pc 4)
    | _ => Ra24.memory s (Ra24.get s s.pc 4)) := by
    have q0 : GoOut K H A Q E (match Ra24.get s s.pc 4 / 2 ^ 30 with
      | 1 => .ok (Ra24.jump (Ra24.set s 15 s.pc) ((s.pc + 4 * (Ra24.get s s.pc 4 % 2 ^ 30)) % Ra24.W))
      | 0 => shortOf s (Ra24.get s s.pc 4)
      | 2 => Ra24.arith s (Ra24.get s s.pc 4)
      | _ => Ra24.memory s (Ra24.get s s.pc 4)) := hQ
    generalize (match Ra24.get s s.pc 4 / 2 ^ 30 with
      | 1 => Except.ok (Ra24.jump (Ra24.set s 15 s.pc) ((s.pc + 4 * (Ra24.get s s.pc 4 % 2 ^ 30)) % Ra24.W))
      | 0 => shortOf s (Ra24.get s s.pc 4)
      | 2 => Ra24.arith s (Ra24.get s s.pc 4)
      | _ => Ra24.memory s (Ra24.get s s.pc 4)) = g at q0 ⊢
    cases g with
    | error t => exact fun d H' s2 hd => q0 d H' (s1.trans s2) hd
    | ok s' => exact fun H' M' f' => q0 H' M' ((Fr.same s1).trans f')
  clear hQ
  have e30 : (2 : Nat) ^ 30 = 1073741824 := by decide
  refine ⟨_, rfl, _, _, rfl, rfl, (show (0 : Int) ≤ 30 by decide), ?_⟩
  have ek : (Ra24.get s s.pc 4 : Int) / 2 ^ ((30 : Int).toNat) = ((Ra24.get s s.pc 4 / 2 ^ 30 : Nat) : Int) := shr_nat _ 30
  generalize hx : Ra24.get s s.pc 4 = x at *
  refine ⟨_, rfl, rfl, _, rfl, iteEq (fun h0 => ?_) fun h0 => ?_⟩
  · rw [ek] at h0
    rw [show x / 2 ^ 30 = 0 by omega] at q1
    exact ⟨_, rfl, _, _, _, rfl, hm1, mf_none (by decide +kernel), _, rfl, A, s, x, rfl, M1, q1⟩
  rw [ek] at h0
  refine ⟨_, rfl, rfl, _, rfl, iteEq (fun h1 => ?_) fun h1 => ?_⟩
  · rw [ek] at h1
    rw [show x / 2 ^ 30 = 1 by omega] at q1
    exact ⟨_, rfl, _, _, _, rfl, hm1, mf_none (by decide +kernel), _, rfl, A, s, x, rfl, M1, q1⟩
  rw [ek] at h1
  refine ⟨_, rfl, rfl, _, rfl, iteEq (fun h2 => ?_) fun h2 => ?_⟩
  · rw [ek] at h2
    rw [show x / 2 ^ 30 = 2 by omega] at q1
    exact ⟨_, rfl, _, _, _, rfl, hm1, mf_none (by decide +kernel), _, rfl, A, s, x, rfl, M1, trivial, q1⟩
  · rw [ek] at h2
    rw [show x / 2 ^ 30 = 3 by rw [e30] at *; omega] at q1
    exact ⟨_, rfl, _, _, _, rfl, hm1, mf_none (by decide +kernel), _, rfl, A, s, x, rfl, M1, q1⟩
end
end Wd
set_option Elab.async false
set_option linter.all false
set_option maxRecDepth 100000
set_option maxHeartbeats 4000000
namespace Wd
open PySem PySem.Spec PyProof.Rows L2
/-! ### mathematics: operations on registers -/
theorem arith_lo {s : Ra24.M} {x : Nat} (h : Ra24.field x 24 19 < 32) : Ra24.arith s x = (match Ra24.operate s (Ra24.field x 24 19 % 16) (Ra24.reg s (Ra24.field x 18 14)) (Ra24.second s x) with
    | none => .error 2
    | some (.error e) => .error e
    | some (.ok (r, i, y)) => .ok (Ra24.next (if 16 ≤ Ra24.field x 24 19 then { Ra24.set s (Ra24.field x 29 25) r with y := y, icc := i } else { Ra24.set s (Ra24.field x 29 25) r with y := y }))) := by
  unfold Ra24.arith
  refine (if_pos h).trans ?_
  rfl
theorem operate_prod {s : Ra24.M} {low a b : Nat} (h : low = 10 ∨ low = 11) : Ra24.operate s low a b = some (.ok (prodOf (decide (low = 11)) a b % Ra24.W, Ra24.nz (prodOf (decide (low = 11)) a b % Ra24.W) false false, prodOf (decide (low = 11)) a b / Ra24.W)) := by
  rcases h with h | h <;> subst h <;> rfl
theorem operate_quot {s : Ra24.M} {low a b : Nat} (h : low = 14 ∨ low = 15) : Ra24.operate s low a b = (match Ra24.divided (decide (low = 15)) s.y a b with
    | none => some (.error 0x2A)
    | some (x, v) => some (.ok (x, Ra24.nz x v false, s.y))) := by
  rcases h with h | h <;> subst h <;> rfl
theorem operate_simple {s : Ra24.M} {low a b : Nat} (h : low < 16) (n : low ≠ 10 ∧ low ≠ 11 ∧ low ≠ 14 ∧ low ≠ 15) : Ra24.operate s low a b = (match simpleOf low a b (if s.icc.c = true then 1 else 0) with
    | none => none
    | some r => some (.ok (r.1, r.2, s.y))) := by
  obtain ⟨n1, n2, n3, n4⟩ := n
  have z : low = 0 ∨ low = 1 ∨ low = 2 ∨ low = 3 ∨ low = 4 ∨ low = 5 ∨ low = 6 ∨ low = 7 ∨ low = 8 ∨ low = 9 ∨ low = 12 ∨ low = 13 := by omega
  rcases z with z | z | z | z | z | z | z | z | z | z | z | z <;> subst z <;> rfl
theorem W2 : Ra24.W = 2 ^ 32 := rfl
theorem plus_lt (a b c : Nat) : (Ra24.plus a b c).1 < Ra24.W := Nat.mod_lt _ (by rw [Wv]; decide)
theorem minus_lt (a b c : Nat) : (Ra24.minus a b c).1 < Ra24.W := Nat.mod_lt _ (by rw [Wv]; decide)
theorem byBits_lt {op a b : Nat} (ha : a < Ra24.W) (hb : b < Ra24.W) : byBits op a b < Ra24.W := by
  have ht : turned op b < Ra24.W := by
    unfold turned
    rw [Wv] at *
    split <;> omega
  rw [W2] at *
  unfold byBits
  split
  · exact Nat.lt_of_le_of_lt Nat.and_le_left ha
  · split
    · exact Nat.or_lt_two_pow ha ht
    · exact Nat.xor_lt_two_pow ha ht
theorem simpleOf_lt {op a b c : Nat} {r : Nat × Ra24.Icc} (ha : a < Ra24.W) (hb : b < Ra24.W) (h : simpleOf op a b c = some r) : r.1 < Ra24.W := by
  unfold simpleOf at h
  split at h
  · rw [← Option.some.inj h]
    exact plus_lt _ _ _
  · split at h
    · rw [← Option.some.inj h]
      exact minus_lt _ _ _
    · split at h
      · rw [← Option.some.inj h]
        exact plus_lt _ _ _
      · split at h
        · rw [← Option.some.inj h]
          exact minus_lt _ _ _
        · split at h
          · cases h
          · rw [← Option.some.inj h]
            exact byBits_lt ha hb
theorem prodOf_div_lt {s : Bool} {a b : Nat} (ha : a < Ra24.W) (hb : b < Ra24.W) : prodOf s a b / Ra24.W < Ra24.W := by
  have e := (prod_lo (s := s) ha hb _ rfl).2
  rw [Wv] at *
  omega
theorem divided_lt {sg : Bool} {y a b x : Nat} {v : Bool} (h : Ra24.divided sg y a b = some (x, v)) : x < Ra24.W := by
  by_cases hb : b = 0
  · subst hb
    cases h
  · cases sg with
    | false =>
      rw [divided_u hb] at h
      have h2 := Option.some.inj h
      split at h2
      · rw [← (Prod.mk.inj h2).1, Wv]
        decide
      · rw [← (Prod.mk.inj h2).1]
        omega
    | true =>
      rw [divided_s hb _ rfl] at h
      have h2 := Option.some.inj h
      generalize Int.tdiv _ (Ra24.signed b) = q at h2
      split at h2
      · rw [← (Prod.mk.inj h2).1, Wv]
        decide
      · split at h2
        · rw [← (Prod.mk.inj h2).1, Wv]
          decide
        · rw [← (Prod.mk.inj h2).1]
          exact wrap_lt _
/-- a register set beside Y and the conditions -/
theorem set_beside (s : Ra24.M) (r x y : Nat) (i : Ra24.Icc) : Ra24.set { s with y := y, icc := i } r x = { Ra24.set s r x with y := y, icc := i } := by
  unfold Ra24.set
  split
  · rfl
  · split <;> rfl
theorem set_icc (s : Ra24.M) (r x : Nat) : (Ra24.set s r x).icc = s.icc ∧ (Ra24.set s r x).y = s.y := by
  unfold Ra24.set
  split
  · exact ⟨rfl, rfl⟩
  · split <;> exact ⟨rfl, rfl⟩
section
variable {K : PySem.W.Frag} {mg : Str → Option Value} {A : Ad} {s : Ra24.M} {H : Hp}
/-- the end of reckon: the conditions, then d -/
theorem reckon_tail (T : Txt K mg) {E : XK} {x op a b low r y : Nat} {i : Ra24.Icc} {p : Addr} {w6 w7 : Option V} {H1 : Hp} {Q : VK} (hr : r < Ra24.W) (M1 : Mach K H1 A { s with y := y }) (f1 : Fr A H H1) (hi : IccAt K H1 p i)
    (hQ : MachOut K H A Q (Ra24.next (if 16 ≤ op then { Ra24.set s (Ra24.field x 29 25) r with y := y, icc := i } else { Ra24.set s (Ra24.field x 29 25) r with y := y }))) :
    (tSeq (tIfS (tTest (tOp rGeB (tVar 2) (tC (.int 16)))) (tDrop (tMeth (He.ga K "Machine") "set_conditions" (sp_Machine_set_conditions K) [] E0 (tVar 0) (tCons (tVar 9) tNil))) tNext)
    (tDrop (tMeth (He.ga K "Machine") "give" (sp_Machine_give K) [] E0 (tVar 0) (tCons (tVar 1) (tCons (tVar 8) tNil))))) { nx := fun _ H' => Q .non H', rt := Q }
      [some (.ref A.m), some (.int (x : Int)), some (.int (op : Int)), some (.int (a : Int)), some (.int (b : Int)), some (.int (low : Int)), w6, w7, some (.int (r : Int)), some (.ref p)] H1 := by
  obtain ⟨c1, hm1, _⟩ := M1.m
  refine ⟨_, rfl, _, _, rfl, rfl, _, rfl, iteD (fun h => ?_) fun h => ?_⟩
  · rw [if_pos (by omega)] at hQ
    refine ⟨_, rfl, _, _, _, rfl, hm1, mf_none (by decide +kernel), _, rfl, A, _, p, i, rfl, M1, hi, fun H2 M2 f2 => ?_⟩
    obtain ⟨c2, hm2, _⟩ := M2.m
    refine ⟨_, rfl, _, _, _, rfl, hm2, mf_none (by decide +kernel), _, rfl, _, rfl, A, _, x, _, rfl, M2, ?_⟩
    rw [wrap_nat hr]
    have e : Ra24.set { { s with y := y } with icc := i } (Ra24.field x 29 25) r = { Ra24.set s (Ra24.field x 29 25) r with y := y, icc := i } := set_beside s _ r y i
    rw [e]
    exact fun H3 M3 f3 => hQ H3 M3 ((f1.trans f2).trans f3)
  · rw [if_neg (by omega)] at hQ
    refine ⟨_, rfl, _, _, _, rfl, hm1, mf_none (by decide +kernel), _, rfl, _, rfl, A, _, x, _, rfl, M1, ?_⟩
    rw [wrap_nat hr]
    have e : Ra24.set { s with y := y } (Ra24.field x 29 25) r = { Ra24.set s (Ra24.field x 29 25) r with y := y } := by
      have z := set_beside s (Ra24.field x 29 25) r y s.icc
      have z2 := (set_icc s (Ra24.field x 29 25) r).1
      refine z.trans ?_
      rw [← z2]
    rw [e]
    exact fun H3 M3 f3 => hQ H3 M3 (f1.trans f3)
theorem pure_Machine_reckon (T : Txt K mg) : ∀ vs H Q E, sp_Machine_reckon K vs H Q E → t_Machine_reckon K E { nx := fun _ H' => Q .non H', rt := Q } (start ["self", "ins", "op", "a", "b", "low", "word", "high", "found", "conditions"] vs) H := by
  rintro vs H Q E ⟨A, s, x, rfl, M, hop, hQ⟩
  obtain ⟨c, hm, dx, hc⟩ := M.m
  rw [arith_lo hop] at hQ
  have ha := reg_lt M.ok (Ra24.field x 18 14)
  have hb := second_lt M.ok x
  generalize hA : Ra24.reg s (Ra24.field x 18 14) = a at ha hQ
  generalize hB : Ra24.second s x = b at hb hQ
  refine ⟨_, rfl, _, _, _, rfl, hm, mf_none (by decide +kernel), _, rfl, A, s, x, rfl, M, ?_⟩
  refine ⟨_, rfl, _, _, _, rfl, hm, mf_none (by decide +kernel), _, rfl, A, s, x, rfl, M, ?_⟩
  rw [hA, hB]
  refine ⟨_, rfl, _, _, rfl, rfl, (show (0 : Int) < 16 by decide), ?_⟩
  generalize hOp : Ra24.field x 24 19 = op at hop hQ
  have hlow : op % 16 < 16 := Nat.mod_lt _ (by decide)
  refine ⟨_, rfl, (by show 2 ≤ sizeLine; decide), fun l hl => ⟨l, _, rfl, Or.inr (SqT.of upd_same), rfl, rfl, _, rfl, ?_⟩⟩
  have s1 : Same H (upd H l (.tup [.int 10, .int 11])) := Same.new hl
  have hm1 := s1 _ _ hm
  show if inV (.int ((op % 16 : Nat) : Int)) [.int 10, .int 11] = true then _ else _
  rw [in2]
  by_cases c1 : op % 16 = 10 ∨ op % 16 = 11
  · refine (if_pos ?_).mpr ?_
    · rcases c1 with z | z <;> rw [z] <;> rfl
    rw [operate_prod c1] at hQ
    have ed : decide (V.int ((op % 16 : Nat) : Int) = V.int 11) = decide (op % 16 = 11) := by
      rw [dec_int]
      exact decide_eq_decide.mpr (by omega)
    refine ⟨_, rfl, _, rfl, _, rfl, rfl, a, b, decide (op % 16 = 11), ?_, ⟨ha, hb⟩, fun H2 t s2 ht => ?_⟩
    · exact vc (vc (congrArg (fun z => [V.bl z]) ed))
    refine ⟨t, _, rfl, SqT.of ht, rfl, _, _, rfl, _, _, rfl, rfl, ?_⟩
    refine ⟨_, rfl, _, rfl, fun H3 t3 p3 s3 ht3 ic3 => ?_⟩
    refine ⟨t3, _, rfl, SqT.of ht3, rfl, _, _, rfl, _, _, rfl, rfl, ?_⟩
    have s123 := (s1.trans s2).trans s3
    have M3 := M.mono s123
    refine ⟨_, rfl, _, _, _, rfl, s123 _ _ hm, mf_none (by decide +kernel), _, rfl, A, s, _, rfl, M3, prodOf_div_lt ha hb, fun H4 M4 f4 => ?_⟩
    have ic4 : IccAt K H4 p3 (Ra24.nz (prodOf (decide (op % 16 = 11)) a b % Ra24.W) false false) := by
      obtain ⟨dx3, h3⟩ := ic3
      refine ⟨dx3, f4 _ _ h3 fun z => ?_⟩
      rcases z with z | z | z | z | ⟨j, hj, z⟩
      · rw [z, s123 _ _ hm] at h3
        exact ne_ic_mac (HO.ins.inj (Option.some.inj h3)).2.2.symm
      · rw [z, M3.r] at h3
        exact ne_ic_reg (HO.ins.inj (Option.some.inj h3)).2.2.symm
      · rw [z, M3.sh] at h3
        cases h3
      · rw [z, M3.me] at h3
        cases h3
      · rw [z, M3.w j hj] at h3
        cases h3
    exact reckon_tail (E := E) T (Nat.mod_lt _ (by rw [Wv]; decide)) M4 ((Fr.same s123).trans f4) ic4 hQ
  · refine (if_neg ?_).mpr ?_
    · rw [decide_eq_false (by omega), decide_eq_false (by omega)]
      decide
    refine ⟨_, rfl, (by show 2 ≤ sizeLine; decide), fun l2 hl2 => ⟨l2, _, rfl, Or.inr (SqT.of upd_same), rfl, rfl, _, rfl, ?_⟩⟩
    have s2 := s1.trans (Same.new (o := .tup [.int 14, .int 15]) hl2)
    have M2 := M.mono s2
    have hm2 := s2 _ _ hm
    show if inV (.int ((op % 16 : Nat) : Int)) [.int 14, .int 15] = true then _ else _
    rw [in2]
    by_cases c2 : op % 16 = 14 ∨ op % 16 = 15
    · refine (if_pos ?_).mpr ?_
      · rcases c2 with z | z <;> rw [z] <;> rfl
      rw [operate_quot c2] at hQ
      have ed : decide (V.int ((op % 16 : Nat) : Int) = V.int 15) = decide (op % 16 = 15) := by
        rw [dec_int]
        exact decide_eq_decide.mpr (by omega)
      refine ⟨_, rfl, _, _, _, _, _, rfl, hm2, T.cl_Machine, T.n_Machine_y, mf_y, _, rfl, _, rfl, _, rfl, rfl, s.y, a, b, decide (op % 16 = 15), ?_, ⟨M.ok.y, ha, hb⟩, ?_⟩
      · exact vc (vc (vc (congrArg (fun z => [V.bl z]) ed)))
      cases hd : Ra24.divided (decide (op % 16 = 15)) s.y a b with
      | none =>
        rw [hd] at hQ
        exact fun d H' s3 hd => hQ d H' (s2.trans s3) hd
      | some r =>
        obtain ⟨r, v⟩ := r
        rw [hd] at hQ
        intro H3 t p s3 ht ic
        refine ⟨t, _, rfl, SqT.of ht, rfl, _, _, rfl, _, _, rfl, rfl, ?_⟩
        exact reckon_tail (E := E) T (divided_lt hd) (M2.mono s3) (Fr.same (s2.trans s3)) ic hQ
    · refine (if_neg ?_).mpr ?_
      · rw [decide_eq_false (by omega), decide_eq_false (by omega)]
        decide
      rw [operate_simple hlow ⟨by omega, by omega, by omega, by omega⟩] at hQ
      obtain ⟨dx2, hc2⟩ := (IccAt.mono s2 ⟨dx, hc⟩ : IccAt K _ c s.icc)
      refine ⟨_, rfl, _, rfl, _, rfl, _, rfl, _, _, _, _, _, rfl, hm2, T.cl_Machine, T.n_Machine_conditions, mf_conditions, _, _, dx2, _, _, rfl, hc2, T.cl_Conditions, T.n_Conditions_c, ic_c _, Or.inr ⟨_, rfl, op % 16, a, b, if s.icc.c = true then 1 else 0, ?_, ⟨ha, hb, by split <;> decide⟩, ?_⟩⟩
      · refine vc (vc (vc (vi ?_ rfl)))
        cases s.icc.c <;> rfl
      cases hd : simpleOf (op % 16) a b (if s.icc.c = true then 1 else 0) with
      | none =>
        rw [hd] at hQ
        exact fun d H' s3 hd => hQ d H' (s2.trans s3) hd
      | some r =>
        rw [hd] at hQ
        intro H3 t p s3 ht ic
        refine ⟨t, _, rfl, SqT.of ht, rfl, _, _, rfl, _, _, rfl, rfl, ?_⟩
        exact reckon_tail (E := E) T (simpleOf_lt ha hb hd) (M2.mono s3) (Fr.same (s2.trans s3)) ic hQ
end
end Wd
set_option Elab.async false
set_option linter.all false
set_option maxRecDepth 100000
set_option maxHeartbeats 4000000
namespace Wd
open PySem PySem.Spec PyProof.Rows L2
theorem arith_tagged {s : Ra24.M} {x : Nat} (h : 32 ≤ Ra24.field x 24 19 ∧ Ra24.field x 24 19 ≤ 35) :
    Ra24.arith s x = if (taggedOf (Ra24.field x 24 19) (Ra24.reg s (Ra24.field x 18 14)) (Ra24.second s x)).2.v = true ∧ 34 ≤ Ra24.field x 24 19 then .error 10
      else .ok (Ra24.next { Ra24.set s (Ra24.field x 29 25) (taggedOf (Ra24.field x 24 19) (Ra24.reg s (Ra24.field x 18 14)) (Ra24.second s x)).1 with icc := (taggedOf (Ra24.field x 24 19) (Ra24.reg s (Ra24.field x 18 14)) (Ra24.second s x)).2 }) := by
  have z : Ra24.field x 24 19 = 32 ∨ Ra24.field x 24 19 = 33 ∨ Ra24.field x 24 19 = 34 ∨ Ra24.field x 24 19 = 35 := by omega
  unfold Ra24.arith
  rcases z with z | z | z | z
  · rw [z]
    refine Eq.trans ?_ (if_neg (by omega)).symm
    rfl
  · rw [z]
    refine Eq.trans ?_ (if_neg (by omega)).symm
    rfl
  · rw [z]
    by_cases q : (taggedOf 34 (Ra24.reg s (Ra24.field x 18 14)) (Ra24.second s x)).2.v = true
    · refine Eq.trans ?_ (if_pos ⟨q, by decide⟩).symm
      exact if_pos q
    · refine Eq.trans ?_ (if_neg fun z => q z.1).symm
      exact if_neg q
  · rw [z]
    by_cases q : (taggedOf 35 (Ra24.reg s (Ra24.field x 18 14)) (Ra24.second s x)).2.v = true
    · refine Eq.trans ?_ (if_pos ⟨q, by decide⟩).symm
      exact if_pos q
    · refine Eq.trans ?_ (if_neg fun z => q z.1).symm
      exact if_neg q
theorem arith_36 {s : Ra24.M} {x : Nat} (h : Ra24.field x 24 19 = 36) : Ra24.arith s x = .ok (Ra24.next { Ra24.set s (Ra24.field x 29 25) (stepOf (Ra24.reg s (Ra24.field x 18 14)) (Ra24.second s x) s.y s.icc).1 with
    icc := (stepOf (Ra24.reg s (Ra24.field x 18 14)) (Ra24.second s x) s.y s.icc).2, y := s.y / 2 + Ra24.reg s (Ra24.field x 18 14) % 2 * 2 ^ 31 }) := by
  unfold Ra24.arith
  rw [h]
  rfl
theorem arith_shift {s : Ra24.M} {x : Nat} (h : 37 ≤ Ra24.field x 24 19 ∧ Ra24.field x 24 19 ≤ 39) : Ra24.arith s x = .ok (Ra24.next (Ra24.set s (Ra24.field x 29 25) (shiftOf (Ra24.field x 24 19) (Ra24.reg s (Ra24.field x 18 14)) (Ra24.second s x)))) := by
  have z : Ra24.field x 24 19 = 37 ∨ Ra24.field x 24 19 = 38 ∨ Ra24.field x 24 19 = 39 := by omega
  unfold Ra24.arith
  rcases z with z | z | z <;> rw [z] <;> rfl
theorem arith_40 {s : Ra24.M} {x : Nat} (h : Ra24.field x 24 19 = 40) : Ra24.arith s x = if Ra24.field x 18 14 ≠ 0 then .error 2 else .ok (Ra24.next (Ra24.set s (Ra24.field x 29 25) s.y)) := by
  unfold Ra24.arith
  rw [h]
  rfl
theorem arith_48 {s : Ra24.M} {x : Nat} (h : Ra24.field x 24 19 = 48) : Ra24.arith s x = if Ra24.field x 29 25 ≠ 0 then .error 2 else .ok (Ra24.next { s with y := Ra24.reg s (Ra24.field x 18 14) ^^^ Ra24.second s x }) := by
  unfold Ra24.arith
  rw [h]
  rfl
theorem arith_41 {s : Ra24.M} {x : Nat} (h : 41 ≤ Ra24.field x 24 19 ∧ Ra24.field x 24 19 ≤ 47) : Ra24.arith s x = .error 2 := by
  unfold Ra24.arith
  generalize Ra24.field x 24 19 = op at *
  have z : op = 41 ∨ op = 42 ∨ op = 43 ∨ op = 44 ∨ op = 45 ∨ op = 46 ∨ op = 47 := by omega
  rcases z with z | z | z | z | z | z | z <;> subst z <;> rfl
theorem taggedOf_lt (op a b : Nat) : (taggedOf op a b).1 < Ra24.W := by
  unfold taggedOf Ra24.tagged
  dsimp only
  split
  · exact plus_lt _ _ _
  · exact minus_lt _ _ _
theorem shiftOf_lt {op a b : Nat} (ha : a < Ra24.W) : shiftOf op a b < Ra24.W := by
  unfold shiftOf
  split
  · exact Nat.mod_lt _ (by rw [Wv]; decide)
  · split
    · exact Nat.lt_of_le_of_lt (Nat.div_le_self _ _) ha
    · exact wrap_lt _
theorem IccAt.fr {K : PySem.W.Frag} {H H' : Hp} {A : Ad} {s : Ra24.M} {p : Addr} {i : Ra24.Icc} (M : Mach K H A s) (ic : IccAt K H p i) (f : Fr A H H') : IccAt K H' p i := by
  obtain ⟨c, hm, _⟩ := M.m
  obtain ⟨dx, h⟩ := ic
  refine ⟨dx, f _ _ h fun z => ?_⟩
  rcases z with z | z | z | z | ⟨j, hj, z⟩
  · rw [z, hm] at h
    exact ne_ic_mac (HO.ins.inj (Option.some.inj h)).2.2.symm
  · rw [z, M.r] at h
    exact ne_ic_reg (HO.ins.inj (Option.some.inj h)).2.2.symm
  · rw [z, M.sh] at h
    cases h
  · rw [z, M.me] at h
    cases h
  · rw [z, M.w j hj] at h
    cases h
section
variable {K : PySem.W.Frag} {mg : Str → Option Value} {A : Ad} {s : Ra24.M} {H : Hp}
theorem pure_Machine_special (T : Txt K mg) : ∀ vs H Q E, sp_Machine_special K vs H Q E → t_Machine_special K E { nx := fun _ H' => Q .non H', rt := Q } (start ["self", "ins", "op", "a", "b", "found", "conditions", "y"] vs) H := by
  rintro vs H Q E ⟨A, s, x, rfl, M, hop, hQ⟩
  obtain ⟨c, hm, dx, hc⟩ := M.m
  have ha := reg_lt M.ok (Ra24.field x 18 14)
  have hb := second_lt M.ok x
  refine ⟨_, rfl, _, _, _, rfl, hm, mf_none (by decide +kernel), _, rfl, A, s, x, rfl, M, ?_⟩
  refine ⟨_, rfl, _, _, _, rfl, hm, mf_none (by decide +kernel), _, rfl, A, s, x, rfl, M, ?_⟩
  have rest : ¬ Ra24.field x 24 19 ≤ 35 → (tIfS (tTest (tOp rEq (tVar 2) (tC (.int 36)))) (tSeq (tAsg (tCall (sp_product_step K) [] E0 (tCons (tVar 3) (tCons (tVar 4) (tCons (tFld K (tVar 0) "y") (tCons (tFld K (tVar 0) "conditions") tNil))))) (gTup K 3 (gCons (gName 5) (gCons (gName 6) (gCons (gName 7) gNil)))))
    (tSeq (tDrop (tMeth (He.ga K "Machine") "set_conditions" (sp_Machine_set_conditions K) [] E0 (tVar 0) (tCons (tVar 6) tNil)))
    (tSeq (tDrop (tMeth (He.ga K "Machine") "set_y" (sp_Machine_set_y K) [] E0 (tVar 0) (tCons (tVar 7) tNil)))
    (tDrop (tMeth (He.ga K "Machine") "give" (sp_Machine_give K) [] E0 (tVar 0) (tCons (tVar 1) (tCons (tVar 5) tNil))))))) (tIfS (tTest (tChain rLeB rLeB (tC (.int 37)) (tVar 2) (tC (.int 39)))) (tDrop (tMeth (He.ga K "Machine") "give" (sp_Machine_give K) [] E0 (tVar 0) (tCons (tVar 1) (tCons (tCall (sp_shifted K) [] E0 (tCons (tVar 2) (tCons (tVar 3) (tCons (tVar 4) tNil)))) tNil)))) (tIfS (tAnd (tTest (tOp rEq (tVar 2) (tC (.int 40)))) (tTest (tOp rEq (tCall (sp_bits_of K) [] E0 (tCons (tVar 1) (tCons (tC (.int 14)) (tCons (tC (.int 5)) tNil)))) (tC (.int 0))))) (tDrop (tMeth (He.ga K "Machine") "give" (sp_Machine_give K) [] E0 (tVar 0) (tCons (tVar 1) (tCons (tFld K (tVar 0) "y") tNil)))) (tIfS (tAnd (tTest (tOp rEq (tVar 2) (tC (.int 48)))) (tTest (tOp rEq (tCall (sp_bits_of K) [] E0 (tCons (tVar 1) (tCons (tC (.int 25)) (tCons (tC (.int 5)) tNil)))) (tC (.int 0))))) (tSeq (tDrop (tMeth (He.ga K "Machine") "set_y" (sp_Machine_set_y K) [] E0 (tVar 0) (tCons (tOp rXorI (tVar 3) (tVar 4)) tNil)))
    (tDrop (tMeth (He.ga K "Machine") "go_on" (sp_Machine_go_on K) [] E0 (tVar 0) tNil))) (tTrap K (fun cls d _ H => E cls d H) (tCons (tC (.int 2)) tNil)))))) { nx := fun _ H' => Q .non H', rt := Q } [some (.ref A.m), some (.int (x : Int)), some (.int (Ra24.field x 24 19 : Int)), some (.int (Ra24.reg s (Ra24.field x 18 14) : Int)), some (.int (Ra24.second s x : Int)), none, none, none] H := by
    intro h35
    refine ⟨_, rfl, rfl, _, rfl, iteEq (fun h => ?_) fun h => ?_⟩
    · rw [arith_36 (by omega)] at hQ
      refine ⟨_, rfl, _, rfl, _, rfl, _, _, _, _, _, rfl, hm, T.cl_Machine, T.n_Machine_y, mf_y, _, rfl, _, _, _, _, _, rfl, hm, T.cl_Machine, T.n_Machine_conditions, mf_conditions, _, _, s.y, c, s.icc, rfl, ⟨ha, hb, M.ok.y⟩, ⟨dx, hc⟩, fun H1 t q s1 ht ic => ?_⟩
      refine ⟨t, _, rfl, SqT.of ht, rfl, _, _, rfl, _, _, rfl, _, _, rfl, rfl, ?_⟩
      refine ⟨_, rfl, _, _, _, rfl, s1 _ _ hm, mf_none (by decide +kernel), _, rfl, A, s, q, _, rfl, M.mono s1, ic, fun H2 M2 f2 => ?_⟩
      obtain ⟨c2, hm2, _⟩ := M2.m
      have hy : s.y / 2 + Ra24.reg s (Ra24.field x 18 14) % 2 * 2 ^ 31 < Ra24.W := by
        have h1 := M.ok.y
        have e1 : (2 : Nat) ^ 31 = 2147483648 := by decide
        rw [Wv, e1] at *
        omega
      refine ⟨_, rfl, _, _, _, rfl, hm2, mf_none (by decide +kernel), _, rfl, A, _, _, rfl, M2, hy, fun H3 M3 f3 => ?_⟩
      obtain ⟨c3, hm3, _⟩ := M3.m
      refine ⟨_, rfl, _, _, _, rfl, hm3, mf_none (by decide +kernel), _, rfl, _, rfl, A, _, x, _, rfl, M3, ?_⟩
      rw [wrap_nat (show (stepOf (Ra24.reg s (Ra24.field x 18 14)) (Ra24.second s x) s.y s.icc).1 < Ra24.W from plus_lt _ _ _)]
      have e := set_beside s (Ra24.field x 29 25) (stepOf (Ra24.reg s (Ra24.field x 18 14)) (Ra24.second s x) s.y s.icc).1 (s.y / 2 + Ra24.reg s (Ra24.field x 18 14) % 2 * 2 ^ 31) (stepOf (Ra24.reg s (Ra24.field x 18 14)) (Ra24.second s x) s.y s.icc).2
      intro H4 M4 f4
      refine hQ H4 ?_ (((Fr.same s1).trans f2).trans (f3.trans f4))
      rw [← e]
      exact M4
    refine ⟨_, rfl, _, _, rfl, rfl, _, rfl, ite2 (fun hA => ?_) fun hA => ?_⟩
    · have hA' := of_decide_eq_true hA
      refine ⟨_, _, rfl, rfl, _, rfl, iteD (fun h2 => ?_) fun h2 => ?_⟩
      · rw [arith_shift (by omega)] at hQ
        refine ⟨_, rfl, _, _, _, rfl, hm, mf_none (by decide +kernel), _, rfl, _, rfl, _, rfl, _, rfl, Ra24.field x 24 19, _, _, rfl, ha, A, s, x, _, rfl, M, ?_⟩
        rw [wrap_nat (shiftOf_lt ha)]
        exact hQ
      · have r40 : (tIfS (tAnd (tTest (tOp rEq (tVar 2) (tC (.int 40)))) (tTest (tOp rEq (tCall (sp_bits_of K) [] E0 (tCons (tVar 1) (tCons (tC (.int 14)) (tCons (tC (.int 5)) tNil)))) (tC (.int 0))))) (tDrop (tMeth (He.ga K "Machine") "give" (sp_Machine_give K) [] E0 (tVar 0) (tCons (tVar 1) (tCons (tFld K (tVar 0) "y") tNil)))) (tIfS (tAnd (tTest (tOp rEq (tVar 2) (tC (.int 48)))) (tTest (tOp rEq (tCall (sp_bits_of K) [] E0 (tCons (tVar 1) (tCons (tC (.int 25)) (tCons (tC (.int 5)) tNil)))) (tC (.int 0))))) (tSeq (tDrop (tMeth (He.ga K "Machine") "set_y" (sp_Machine_set_y K) [] E0 (tVar 0) (tCons (tOp rXorI (tVar 3) (tVar 4)) tNil)))
    (tDrop (tMeth (He.ga K "Machine") "go_on" (sp_Machine_go_on K) [] E0 (tVar 0) tNil))) (tTrap K (fun cls d _ H => E cls d H) (tCons (tC (.int 2)) tNil)))) { nx := fun _ H' => Q .non H', rt := Q } [some (.ref A.m), some (.int (x : Int)), some (.int (Ra24.field x 24 19 : Int)), some (.int (Ra24.reg s (Ra24.field x 18 14) : Int)), some (.int (Ra24.second s x : Int)), none, none, none] H := by
          have r48 : ¬ Ra24.field x 24 19 = 40 ∨ Ra24.field x 18 14 ≠ 0 → (tIfS (tAnd (tTest (tOp rEq (tVar 2) (tC (.int 48)))) (tTest (tOp rEq (tCall (sp_bits_of K) [] E0 (tCons (tVar 1) (tCons (tC (.int 25)) (tCons (tC (.int 5)) tNil)))) (tC (.int 0))))) (tSeq (tDrop (tMeth (He.ga K "Machine") "set_y" (sp_Machine_set_y K) [] E0 (tVar 0) (tCons (tOp rXorI (tVar 3) (tVar 4)) tNil)))
    (tDrop (tMeth (He.ga K "Machine") "go_on" (sp_Machine_go_on K) [] E0 (tVar 0) tNil))) (tTrap K (fun cls d _ H => E cls d H) (tCons (tC (.int 2)) tNil))) { nx := fun _ H' => Q .non H', rt := Q } [some (.ref A.m), some (.int (x : Int)), some (.int (Ra24.field x 24 19 : Int)), some (.int (Ra24.reg s (Ra24.field x 18 14) : Int)), some (.int (Ra24.second s x : Int)), none, none, none] H := by
            intro hn
            have bad : Ra24.arith s x = .error 2 → (tTrap K (fun cls d _ H => E cls d H) (tCons (tC (.int 2)) tNil)) { nx := fun _ H' => Q .non H', rt := Q } [some (.ref A.m), some (.int (x : Int)), some (.int (Ra24.field x 24 19 : Int)), some (.int (Ra24.reg s (Ra24.field x 18 14) : Int)), some (.int (Ra24.second s x : Int)), none, none, none] H := by
              intro he
              rw [he] at hQ
              exact ⟨2, rfl, fun d H' s hd => hQ d H' s hd⟩
            refine ⟨_, rfl, rfl, _, rfl, iteEq (fun h48 => ?_) fun h48 => iteF (bad ?_)⟩
            · refine ⟨_, rfl, x, 25, 5, rfl, (by decide), rfl, _, rfl, ?_⟩
              rw [field_is x 25 5 29 rfl]
              refine iteEq (fun h0 => ?_) fun h0 => bad ?_
              · rw [arith_48 (by omega), if_neg (by omega)] at hQ
                have xo : Builtin.bitXor (Ra24.reg s (Ra24.field x 18 14) : Int) (Ra24.second s x : Int) = ((Ra24.reg s (Ra24.field x 18 14) ^^^ Ra24.second s x : Nat) : Int) := by rw [Bits.bitXor_pp (by omega) (by omega)] <;> rfl
                have hx : Ra24.reg s (Ra24.field x 18 14) ^^^ Ra24.second s x < Ra24.W := Nat.xor_lt_two_pow (n := 32) ha hb
                refine ⟨_, rfl, _, _, _, rfl, hm, mf_none (by decide +kernel), _, rfl, _, rfl, _, _, rfl, rfl, A, s, _, vc (vi xo rfl), M, hx, fun H1 M1 f1 => ?_⟩
                obtain ⟨c1, hm1, _⟩ := M1.m
                exact ⟨_, rfl, _, _, _, rfl, hm1, mf_none (by decide +kernel), A, _, rfl, M1, fun H2 M2 f2 => hQ H2 M2 (f1.trans f2)⟩
              · rw [arith_48 (by omega), if_pos (by omega)]
            · by_cases h40 : Ra24.field x 24 19 = 40
              · rw [arith_40 h40, if_pos (hn.resolve_left fun z => z h40)]
              · exact arith_41 (by omega)
          refine ⟨_, rfl, rfl, _, rfl, iteEq (fun h40 => ?_) fun h40 => iteF (r48 (Or.inl (by omega)))⟩
          refine ⟨_, rfl, x, 14, 5, rfl, (by decide), rfl, _, rfl, ?_⟩
          rw [field_is x 14 5 18 rfl]
          refine iteEq (fun h0 => ?_) fun h0 => r48 (Or.inr (by omega))
          rw [arith_40 (by omega), if_neg (by omega)] at hQ
          refine ⟨_, rfl, _, _, _, rfl, hm, mf_none (by decide +kernel), _, rfl, _, rfl, _, _, _, _, _, rfl, hm, T.cl_Machine, T.n_Machine_y, mf_y, A, s, x, _, rfl, M, ?_⟩
          rw [wrap_nat M.ok.y]
          exact hQ
        exact r40
    · exact absurd (decide_eq_true (show (37 : Int) ≤ (Ra24.field x 24 19 : Int) by omega)) hA
  refine ⟨_, rfl, _, _, rfl, rfl, _, rfl, ite2 (fun hA => ?_) fun hA => ?_⟩
  · refine ⟨_, _, rfl, rfl, _, rfl, iteD (fun h35 => ?_) fun h35 => rest (by omega)⟩
    have hA' := of_decide_eq_true hA
    rw [arith_tagged (by omega)] at hQ
    refine ⟨_, rfl, _, rfl, _, rfl, Ra24.field x 24 19, _, _, rfl, ⟨ha, hb⟩, ?_⟩
    generalize hr : taggedOf (Ra24.field x 24 19) (Ra24.reg s (Ra24.field x 18 14)) (Ra24.second s x) = r at hQ ⊢
    have hlt : r.1 < Ra24.W := by
      rw [← hr]
      exact taggedOf_lt _ _ _
    by_cases hb : r.2.v = true ∧ 34 ≤ Ra24.field x 24 19
    · rw [if_pos hb] at hQ ⊢
      exact hQ
    · rw [if_neg hb] at hQ ⊢
      intro H1 t p s1 ht ic
      refine ⟨t, _, rfl, SqT.of ht, rfl, _, _, rfl, _, _, rfl, rfl, ?_⟩
      refine ⟨_, rfl, _, _, _, rfl, s1 _ _ hm, mf_none (by decide +kernel), _, rfl, A, s, p, r.2, rfl, M.mono s1, ic, fun H2 M2 f2 => ?_⟩
      obtain ⟨c2, hm2, _⟩ := M2.m
      refine ⟨_, rfl, _, _, _, rfl, hm2, mf_none (by decide +kernel), _, rfl, _, rfl, A, _, x, _, rfl, M2, ?_⟩
      rw [wrap_nat hlt]
      intro H3 M3 f3
      refine hQ H3 ?_ ((Fr.same s1).trans (f2.trans f3))
      have e : Ra24.set { s with icc := r.2 } (Ra24.field x 29 25) r.1 = { Ra24.set s (Ra24.field x 29 25) r.1 with icc := r.2 } := by
        have z := set_beside s (Ra24.field x 29 25) r.1 s.y r.2
        have z2 := (set_icc s (Ra24.field x 29 25) r.1).2
        refine z.trans ?_
        rw [← z2]
      rw [← e]
      exact M3
  · exact absurd (decide_eq_true (show (32 : Int) ≤ (Ra24.field x 24 19 : Int) by have := hop.1; omega)) hA
end
end Wd
set_option Elab.async false
set_option linter.all false
set_option maxRecDepth 100000
set_option maxHeartbeats 4000000
namespace Wd
open PySem PySem.Spec PyProof.Rows L2
/-! ### mathematics: memory -/
theorem get_congr {s s' : Ra24.M} (h : s'.mem = s.mem) (p : Nat) : ∀ n, Ra24.get s' p n = Ra24.get s p n
  | 0 => rfl
  | n + 1 => by rw [get_succ, get_succ, get_congr h p n, h]
theorem set_mem (s : Ra24.M) (r x : Nat) : (Ra24.set s r x).mem = s.mem := by
  unfold Ra24.set
  split
  · rfl
  · split <;> rfl
theorem put_mod1 (s : Ra24.M) (p x : Nat) : Ra24.put s p 1 (x % 256) = Ra24.put s p 1 x := by
  unfold Ra24.put
  have e : (fun q => if p ≤ q ∧ q < p + 1 then x % 256 / 256 ^ (1 - 1 - (q - p)) % 256 else s.mem q) = fun q => if p ≤ q ∧ q < p + 1 then x / 256 ^ (1 - 1 - (q - p)) % 256 else s.mem q := by
    funext q
    by_cases h : p ≤ q ∧ q < p + 1
    · have e0 : 1 - 1 - (q - p) = 0 := by omega
      rw [if_pos h, if_pos h, e0, Nat.pow_zero, Nat.div_one, Nat.div_one, Nat.mod_mod]
    · rw [if_neg h, if_neg h]
  rw [e]
theorem put_mod2 (s : Ra24.M) (p x : Nat) : Ra24.put s p 2 (x % 65536) = Ra24.put s p 2 x := by
  unfold Ra24.put
  have e : (fun q => if p ≤ q ∧ q < p + 2 then x % 65536 / 256 ^ (2 - 1 - (q - p)) % 256 else s.mem q) = fun q => if p ≤ q ∧ q < p + 2 then x / 256 ^ (2 - 1 - (q - p)) % 256 else s.mem q := by
    funext q
    by_cases h : p ≤ q ∧ q < p + 2
    · have e0 : 2 - 1 - (q - p) = 0 ∨ 2 - 1 - (q - p) = 1 := by omega
      rw [if_pos h, if_pos h]
      rcases e0 with e0 | e0 <;> rw [e0]
      · rw [Nat.pow_zero, Nat.div_one, Nat.div_one]
        omega
      · rw [Nat.pow_one]
        omega
    · rw [if_neg h, if_neg h]
  rw [e]
theorem get4_lt {s : Ra24.M} (W : WF s) (p : Nat) : Ra24.get s p 4 < Ra24.W := get_lt W p 4
theorem get2_lt {s : Ra24.M} (W : WF s) (p : Nat) : Ra24.get s p 2 < 65536 := get_lt W p 2
theorem get1_lt {s : Ra24.M} (W : WF s) (p : Nat) : Ra24.get s p 1 < 256 := get_lt W p 1
section
variable {K : PySem.W.Frag} {mg : Str → Option Value} {A : Ad} {s : Ra24.M} {H H1 : Hp} {Q : VK} {E : XK} {x rd p : Nat}
def t_move_tail (K : PySem.W.Frag) : TS :=
  (tSeq (tIfS (tTest (tOp rEq (tVar 2) (tC (.int 3)))) (tSeq (tDrop (tMeth (He.ga K "Registers") "write" (sp_Registers_write K) [] E0 (tFld K (tVar 0) "registers") (tCons (tVar 3) (tCons (tMeth (He.ga K "Machine") "number_at" (sp_Machine_number_at K) [] E0 (tVar 0) (tCons (tVar 4) (tCons (tC (.int 4)) tNil))) tNil))))
    (tDrop (tMeth (He.ga K "Registers") "write" (sp_Registers_write K) [] E0 (tFld K (tVar 0) "registers") (tCons (tOp rAddI (tVar 3) (tC (.int 1))) (tCons (tMeth (He.ga K "Machine") "number_at" (sp_Machine_number_at K) [] E0 (tVar 0) (tCons (tOp rAddI (tVar 4) (tC (.int 4))) (tCons (tC (.int 4)) tNil))) tNil))))) (tIfS (tTest (tOp (rIn K false) (tVar 2) (tTup (tCons (tC (.int 0)) (tCons (tC (.int 1)) (tCons (tC (.int 2)) (tCons (tC (.int 9)) (tCons (tC (.int 10)) tNil)))))))) (tDrop (tMeth (He.ga K "Registers") "write" (sp_Registers_write K) [] E0 (tFld K (tVar 0) "registers") (tCons (tVar 3) (tCons (tMeth (He.ga K "Machine") "load" (sp_Machine_load K) [] E0 (tVar 0) (tCons (tVar 1) (tCons (tVar 2) (tCons (tVar 4) tNil)))) tNil)))) (tIfS (tTest (tOp rEq (tVar 2) (tC (.int 7)))) (tSeq (tDrop (tMeth (He.ga K "Machine") "put" (sp_Machine_put K) [] E0 (tVar 0) (tCons (tVar 4) (tCons (tC (.int 4)) (tCons (tVar 5) tNil)))))
    (tDrop (tMeth (He.ga K "Machine") "put" (sp_Machine_put K) [] E0 (tVar 0) (tCons (tOp rAddI (tVar 4) (tC (.int 4))) (tCons (tC (.int 4)) (tCons (tMeth (He.ga K "Registers") "read" (sp_Registers_read K) [] E0 (tFld K (tVar 0) "registers") (tCons (tOp rAddI (tVar 3) (tC (.int 1))) tNil)) tNil)))))) (tIfS (tTest (tOp (rIn K false) (tVar 2) (tTup (tCons (tC (.int 4)) (tCons (tC (.int 5)) (tCons (tC (.int 6)) tNil)))))) (tDrop (tMeth (He.ga K "Machine") "put" (sp_Machine_put K) [] E0 (tVar 0) (tCons (tVar 4) (tCons (tOp (rSizes K) (tC (.ref (He.ga K "SIZES"))) (tVar 2)) (tCons (tVar 5) tNil))))) (tSeq (tDrop (tMeth (He.ga K "Registers") "write" (sp_Registers_write K) [] E0 (tFld K (tVar 0) "registers") (tCons (tVar 3) (tCons (tMeth (He.ga K "Machine") "number_at" (sp_Machine_number_at K) [] E0 (tVar 0) (tCons (tVar 4) (tCons (tOp (rSizes K) (tC (.ref (He.ga K "SIZES"))) (tVar 2)) tNil))) tNil))))
    (tDrop (tMeth (He.ga K "Machine") "put" (sp_Machine_put K) [] E0 (tVar 0) (tCons (tVar 4) (tCons (tOp (rSizes K) (tC (.ref (He.ga K "SIZES"))) (tVar 2)) (tCons (tIf (tTest (tOp rEq (tVar 2) (tC (.int 13)))) (tC (.int 255)) (tVar 5)) tNil))))))))))
    (tDrop (tMeth (He.ga K "Machine") "go_on" (sp_Machine_go_on K) [] E0 (tVar 0) tNil)))
/-- the last row: on -/
theorem move_end {H3 : Hp} {s3 : Ra24.M} {o1 o2 o3 o4 o5 : Option V} (M3 : Mach K H3 A s3) (q : MachOut K H3 A Q (Ra24.next s3)) :
    (tDrop (tMeth (He.ga K "Machine") "go_on" (sp_Machine_go_on K) [] E0 (tVar 0) tNil)) { nx := fun _ H' => Q .non H', rt := Q } [some (.ref A.m), o1, o2, o3, o4, o5] H3 := by
  obtain ⟨c3, hm3, _⟩ := M3.m
  exact ⟨_, rfl, _, _, _, rfl, hm3, mf_none (by decide +kernel), A, s3, rfl, M3, q⟩
theorem MachOut.from {H3 : Hp} {s' : Ra24.M} (q : MachOut K H A Q s') (f : Fr A H H3) : MachOut K H3 A Q s' := fun H4 M4 f4 => q H4 M4 (f.trans f4)
/-- one register from a number: the shape of the loads -/
theorem move_load (T : Txt K mg) {op n z r : Nat} (hop : op = 0 ∨ op = 1 ∨ op = 2 ∨ op = 9 ∨ op = 10) (hl : sizesL.lookup (op : Int) = some (n : Int)) (hn : 0 < n ∧ n ≤ 8) (M1 : Mach K H1 A s) (hp : p + n ≤ 65536) (hrd : rd < 32)
    (hr : Ra24.wrap (if 9 ≤ op then psg (Ra24.get s p n) (8 * n) else (Ra24.get s p n : Int)) = r) (hQ : MachOut K H1 A Q (Ra24.next (Ra24.set s rd r))) :
    t_move_tail K { nx := fun _ H' => Q .non H', rt := Q } [some (.ref A.m), some (.int (x : Int)), some (.int (op : Int)), some (.int (rd : Int)), some (.int (p : Int)), some (.int (z : Int))] H1 := by
  obtain ⟨c1, hm1, _⟩ := M1.m
  refine ⟨_, rfl, rfl, _, rfl, iteEq (fun h => absurd h (by omega)) fun h => ?_⟩
  refine ⟨_, rfl, (by show 5 ≤ sizeLine; decide), fun l hl5 => ⟨l, _, rfl, Or.inr (SqT.of upd_same), rfl, rfl, _, rfl, ?_⟩⟩
  have s2 : Same H1 (upd H1 l (.tup [.int 0, .int 1, .int 2, .int 9, .int 10])) := Same.new hl5
  have M2 := M1.mono s2
  have hm2 := s2 _ _ hm1
  refine (if_pos ?_).mpr ?_
  · rcases hop with z | z | z | z | z <;> subst z <;> rfl
  refine ⟨_, rfl, _, _, _, _, _, rfl, hm2, T.cl_Machine, T.n_Machine_registers, mf_registers, _, _, _, rfl, M2.r, rf_none (by decide +kernel), _, rfl, _, rfl, _, _, _, rfl, hm2, mf_none (by decide +kernel), _, rfl, _, rfl, _, rfl, A, s, _, op, p, n, rfl, M2, hl, ⟨hp, hn⟩, fun H3 s3 => ?_⟩
  refine ⟨A, s, rd, _, rfl, M2.mono s3, hrd, ?_⟩
  rw [hr]
  exact fun H4 M4 f4 => move_end M4 (hQ.from ((Fr.same (s2.trans s3)).trans f4))
theorem move_3 (T : Txt K mg) {z : Nat} (M1 : Mach K H1 A s) (hp : p + 8 ≤ 65536) (hrd : rd < 32) (he : rd % 2 = 0) (hQ : MachOut K H1 A Q (Ra24.next (Ra24.set (Ra24.set s rd (Ra24.get s p 4)) (rd + 1) (Ra24.get s (p + 4) 4)))) :
    t_move_tail K { nx := fun _ H' => Q .non H', rt := Q } [some (.ref A.m), some (.int (x : Int)), some (.int ((3 : Nat) : Int)), some (.int (rd : Int)), some (.int (p : Int)), some (.int (z : Int))] H1 := by
  obtain ⟨c1, hm1, _⟩ := M1.m
  refine ⟨_, rfl, rfl, _, rfl, iteEq (fun _ => ?_) fun h => absurd rfl h⟩
  refine ⟨_, rfl, _, _, _, _, _, rfl, hm1, T.cl_Machine, T.n_Machine_registers, mf_registers, _, _, _, rfl, M1.r, rf_none (by decide +kernel), _, rfl, _, rfl, _, _, _, rfl, hm1, mf_none (by decide +kernel), _, rfl, A, s, p, 4, rfl, M1, ⟨by omega, by decide⟩, fun H2 s2 => ?_⟩
  refine ⟨A, s, rd, _, rfl, M1.mono s2, hrd, ?_⟩
  rw [wrap_nat (get4_lt M1.ok p)]
  intro H3 M3 f3
  obtain ⟨c3, hm3, _⟩ := M3.m
  refine ⟨_, rfl, _, _, _, _, _, rfl, hm3, T.cl_Machine, T.n_Machine_registers, mf_registers, _, _, _, rfl, M3.r, rf_none (by decide +kernel), _, rfl, _, _, rfl, rfl, _, rfl, _, _, _, rfl, hm3, mf_none (by decide +kernel), _, rfl, _, _, rfl, rfl, A, _, p + 4, 4, rfl, M3, ⟨by omega, by decide⟩, fun H4 s4 => ?_⟩
  refine ⟨A, _, rd + 1, _, rfl, M3.mono s4, by omega, ?_⟩
  rw [get_congr (set_mem s rd (Ra24.get s p 4)), wrap_nat (get4_lt M1.ok (p + 4))]
  exact fun H5 M5 f5 => move_end M5 (hQ.from (((Fr.same s2).trans f3).trans ((Fr.same s4).trans f5)))
theorem move_7 (T : Txt K mg) {v : Nat} (M1 : Mach K H1 A s) (hp : p + 8 ≤ 65536) (hrd : rd < 32) (he : rd % 2 = 0) (hQ : MachOut K H1 A Q (Ra24.next (Ra24.put (Ra24.put s p 4 v) (p + 4) 4 (Ra24.reg s (rd + 1))))) :
    t_move_tail K { nx := fun _ H' => Q .non H', rt := Q } [some (.ref A.m), some (.int (x : Int)), some (.int ((7 : Nat) : Int)), some (.int (rd : Int)), some (.int (p : Int)), some (.int (v : Int))] H1 := by
  obtain ⟨c1, hm1, _⟩ := M1.m
  refine ⟨_, rfl, rfl, _, rfl, iteEq (fun h => absurd h (by omega)) fun _ => ?_⟩
  refine ⟨_, rfl, (by show 5 ≤ sizeLine; decide), fun l hl5 => ⟨l, _, rfl, Or.inr (SqT.of upd_same), rfl, rfl, _, rfl, ?_⟩⟩
  have s2 : Same H1 (upd H1 l (.tup [.int 0, .int 1, .int 2, .int 9, .int 10])) := Same.new hl5
  have M2 := M1.mono s2
  have hm2 := s2 _ _ hm1
  refine (if_neg (by decide)).mpr ?_
  refine ⟨_, rfl, rfl, _, rfl, iteEq (fun _ => ?_) fun h => absurd rfl h⟩
  refine ⟨_, rfl, _, _, _, rfl, hm2, mf_none (by decide +kernel), _, rfl, _, rfl, A, s, p, 4, v, rfl, M2, ⟨by omega, by decide⟩, fun H3 M3 f3 => ?_⟩
  obtain ⟨c3, hm3, _⟩ := M3.m
  refine ⟨_, rfl, _, _, _, rfl, hm3, mf_none (by decide +kernel), _, rfl, _, _, rfl, rfl, _, rfl, _, _, _, _, _, rfl, hm3, T.cl_Machine, T.n_Machine_registers, mf_registers, _, _, _, rfl, M3.r, rf_none (by decide +kernel), _, rfl, _, _, rfl, rfl, A, _, rd + 1, rfl, M3, by omega, ?_⟩
  refine ⟨A, _, p + 4, 4, Ra24.reg s (rd + 1), rfl, M3, ⟨by omega, by decide⟩, ?_⟩
  exact fun H5 M5 f5 => move_end M5 (hQ.from ((Fr.same s2).trans (f3.trans f5)))
theorem move_456 (T : Txt K mg) {op n v : Nat} (hop : op = 4 ∨ op = 5 ∨ op = 6) (hl : sizesL.lookup (op : Int) = some (n : Int)) (hn : 0 < n ∧ n ≤ 8) (M1 : Mach K H1 A s) (hp : p + n ≤ 65536) (hQ : MachOut K H1 A Q (Ra24.next (Ra24.put s p n v))) :
    t_move_tail K { nx := fun _ H' => Q .non H', rt := Q } [some (.ref A.m), some (.int (x : Int)), some (.int (op : Int)), some (.int (rd : Int)), some (.int (p : Int)), some (.int (v : Int))] H1 := by
  obtain ⟨c1, hm1, _⟩ := M1.m
  refine ⟨_, rfl, rfl, _, rfl, iteEq (fun h => absurd h (by omega)) fun _ => ?_⟩
  refine ⟨_, rfl, (by show 5 ≤ sizeLine; decide), fun l hl5 => ⟨l, _, rfl, Or.inr (SqT.of upd_same), rfl, rfl, _, rfl, ?_⟩⟩
  have s2 : Same H1 (upd H1 l (.tup [.int 0, .int 1, .int 2, .int 9, .int 10])) := Same.new hl5
  refine (if_neg ?_).mpr ?_
  · rcases hop with z | z | z <;> subst z <;> decide
  refine ⟨_, rfl, rfl, _, rfl, iteEq (fun h => absurd h (by omega)) fun _ => ?_⟩
  refine ⟨_, rfl, (by show 3 ≤ sizeLine; decide), fun l3 hl3 => ⟨l3, _, rfl, Or.inr (SqT.of upd_same), rfl, rfl, _, rfl, ?_⟩⟩
  have s3 := s2.trans (Same.new (o := .tup [.int 4, .int 5, .int 6]) hl3)
  have M3 := M1.mono s3
  have hm3 := s3 _ _ hm1
  refine (if_pos ?_).mpr ?_
  · rcases hop with z | z | z <;> subst z <;> rfl
  refine ⟨_, rfl, _, _, _, rfl, hm3, mf_none (by decide +kernel), _, rfl, _, rfl, (op : Int), (n : Int), rfl, rfl, hl, _, rfl, A, s, p, n, v, rfl, M3, ⟨hp, hn.2⟩, ?_⟩
  exact fun H5 M5 f5 => move_end M5 (hQ.from ((Fr.same s3).trans f5))
theorem move_swap (T : Txt K mg) {op n v w : Nat} (hop : op = 13 ∨ op = 15) (hl : sizesL.lookup (op : Int) = some (n : Int)) (hn : n = 1 ∨ n = 4) (M1 : Mach K H1 A s) (hp : p + n ≤ 65536) (hrd : rd < 32) (hw : w = if op = 13 then 255 else v)
    (hQ : MachOut K H1 A Q (Ra24.next (Ra24.put (Ra24.set s rd (Ra24.get s p n)) p n w))) :
    t_move_tail K { nx := fun _ H' => Q .non H', rt := Q } [some (.ref A.m), some (.int (x : Int)), some (.int (op : Int)), some (.int (rd : Int)), some (.int (p : Int)), some (.int (v : Int))] H1 := by
  obtain ⟨c1, hm1, _⟩ := M1.m
  refine ⟨_, rfl, rfl, _, rfl, iteEq (fun h => absurd h (by omega)) fun _ => ?_⟩
  refine ⟨_, rfl, (by show 5 ≤ sizeLine; decide), fun l hl5 => ⟨l, _, rfl, Or.inr (SqT.of upd_same), rfl, rfl, _, rfl, ?_⟩⟩
  have s2 : Same H1 (upd H1 l (.tup [.int 0, .int 1, .int 2, .int 9, .int 10])) := Same.new hl5
  refine (if_neg ?_).mpr ?_
  · rcases hop with z | z <;> subst z <;> decide
  refine ⟨_, rfl, rfl, _, rfl, iteEq (fun h => absurd h (by omega)) fun _ => ?_⟩
  refine ⟨_, rfl, (by show 3 ≤ sizeLine; decide), fun l3 hl3 => ⟨l3, _, rfl, Or.inr (SqT.of upd_same), rfl, rfl, _, rfl, ?_⟩⟩
  have s3 := s2.trans (Same.new (o := .tup [.int 4, .int 5, .int 6]) hl3)
  have M3 := M1.mono s3
  have hm3 := s3 _ _ hm1
  refine (if_neg ?_).mpr ?_
  · rcases hop with z | z <;> subst z <;> decide
  refine ⟨_, rfl, _, _, _, _, _, rfl, hm3, T.cl_Machine, T.n_Machine_registers, mf_registers, _, _, _, rfl, M3.r, rf_none (by decide +kernel), _, rfl, _, rfl, _, _, _, rfl, hm3, mf_none (by decide +kernel), _, rfl, _, rfl, (op : Int), (n : Int), rfl, rfl, hl, A, s, p, n, rfl, M3, ⟨hp, by omega⟩, fun H4 s4 => ?_⟩
  refine ⟨A, s, rd, _, rfl, M3.mono s4, hrd, ?_⟩
  have hg : Ra24.get s p n < Ra24.W := by
    rcases hn with z | z <;> subst z
    · have := get1_lt M1.ok p
      rw [Wv]
      omega
    · exact get4_lt M1.ok p
  rw [wrap_nat hg]
  intro H5 M5 f5
  obtain ⟨c5, hm5, _⟩ := M5.m
  refine ⟨_, rfl, _, _, _, rfl, hm5, mf_none (by decide +kernel), _, rfl, _, rfl, (op : Int), (n : Int), rfl, rfl, hl, ?_⟩
  refine ⟨_, rfl, rfl, _, rfl, iteEq (fun h => ?_) fun h => ?_⟩
  · rw [if_pos (by omega)] at hw
    subst hw
    exact ⟨A, _, p, n, 255, rfl, M5, ⟨hp, by omega⟩, fun H6 M6 f6 => move_end M6 (hQ.from (((Fr.same s3).trans (Fr.same s4)).trans (f5.trans f6)))⟩
  · rw [if_neg (by omega)] at hw
    subst hw
    exact ⟨_, rfl, A, _, p, n, w, rfl, M5, ⟨hp, by omega⟩, fun H6 M6 f6 => move_end M6 (hQ.from (((Fr.same s3).trans (Fr.same s4)).trans (f5.trans f6)))⟩
end
end Wd
set_option Elab.async false
set_option linter.all false
set_option maxRecDepth 100000
set_option maxHeartbeats 4000000
namespace Wd
open PySem PySem.Spec PyProof.Rows L2
def sz (op : Nat) : Nat := if op = 0 ∨ op = 4 ∨ op = 15 then 4 else if op = 1 ∨ op = 5 ∨ op = 9 ∨ op = 13 then 1 else if op = 2 ∨ op = 6 ∨ op = 10 then 2 else if op = 3 ∨ op = 7 then 8 else 0
theorem lookup_sz : ∀ op : Nat, op < 64 → sizesL.lookup (op : Int) = if sz op = 0 then none else some ((sz op : Nat) : Int) := by decide
theorem memory_bad {s : Ra24.M} {x : Nat} (h : sz (Ra24.field x 24 19) = 0) : Ra24.memory s x = .error 2 := by
  unfold Ra24.memory
  dsimp only
  generalize Ra24.field x 24 19 = op at h ⊢
  split <;> first | rfl | exact absurd h (by decide)
theorem memory_odd {s : Ra24.M} {x : Nat} (h : Ra24.field x 24 19 = 3 ∨ Ra24.field x 24 19 = 7) (ho : Ra24.field x 29 25 % 2 = 1) : Ra24.memory s x = .error 2 := by
  unfold Ra24.memory
  rcases h with h | h
  · rw [h]
    exact if_pos ho
  · rw [h]
    exact if_pos ho
theorem memory_0 {s : Ra24.M} {x : Nat} (h : Ra24.field x 24 19 = 0) : Ra24.memory s x = Ra24.access (placeOf s x) 4 (.ok (Ra24.next (Ra24.set s (Ra24.field x 29 25) (Ra24.get s (placeOf s x) 4)))) := by
  unfold Ra24.memory
  rw [h]
  rfl
theorem memory_1 {s : Ra24.M} {x : Nat} (h : Ra24.field x 24 19 = 1) : Ra24.memory s x = Ra24.access (placeOf s x) 1 (.ok (Ra24.next (Ra24.set s (Ra24.field x 29 25) (Ra24.get s (placeOf s x) 1)))) := by
  unfold Ra24.memory
  rw [h]
  rfl
theorem memory_2 {s : Ra24.M} {x : Nat} (h : Ra24.field x 24 19 = 2) : Ra24.memory s x = Ra24.access (placeOf s x) 2 (.ok (Ra24.next (Ra24.set s (Ra24.field x 29 25) (Ra24.get s (placeOf s x) 2)))) := by
  unfold Ra24.memory
  rw [h]
  rfl
theorem memory_3 {s : Ra24.M} {x : Nat} (h : Ra24.field x 24 19 = 3) (he : Ra24.field x 29 25 % 2 = 0) : Ra24.memory s x = Ra24.access (placeOf s x) 8 (.ok (Ra24.next (Ra24.set (Ra24.set s (Ra24.field x 29 25) (Ra24.get s (placeOf s x) 4)) ((Ra24.field x 29 25) + 1) (Ra24.get s ((placeOf s x) + 4) 4)))) := by
  unfold Ra24.memory
  rw [h]
  exact if_neg (by omega)
theorem memory_4 {s : Ra24.M} {x : Nat} (h : Ra24.field x 24 19 = 4) : Ra24.memory s x = Ra24.access (placeOf s x) 4 (.ok (Ra24.next (Ra24.put s (placeOf s x) 4 (Ra24.reg s (Ra24.field x 29 25))))) := by
  unfold Ra24.memory
  rw [h]
  rfl
theorem memory_5 {s : Ra24.M} {x : Nat} (h : Ra24.field x 24 19 = 5) : Ra24.memory s x = Ra24.access (placeOf s x) 1 (.ok (Ra24.next (Ra24.put s (placeOf s x) 1 ((Ra24.reg s (Ra24.field x 29 25)) % 256)))) := by
  unfold Ra24.memory
  rw [h]
  rfl
theorem memory_6 {s : Ra24.M} {x : Nat} (h : Ra24.field x 24 19 = 6) : Ra24.memory s x = Ra24.access (placeOf s x) 2 (.ok (Ra24.next (Ra24.put s (placeOf s x) 2 ((Ra24.reg s (Ra24.field x 29 25)) % 65536)))) := by
  unfold Ra24.memory
  rw [h]
  rfl
theorem memory_7 {s : Ra24.M} {x : Nat} (h : Ra24.field x 24 19 = 7) (he : Ra24.field x 29 25 % 2 = 0) : Ra24.memory s x = Ra24.access (placeOf s x) 8 (.ok (Ra24.next (Ra24.put (Ra24.put s (placeOf s x) 4 (Ra24.reg s (Ra24.field x 29 25))) ((placeOf s x) + 4) 4 (Ra24.reg s ((Ra24.field x 29 25) + 1))))) := by
  unfold Ra24.memory
  rw [h]
  exact if_neg (by omega)
theorem memory_9 {s : Ra24.M} {x : Nat} (h : Ra24.field x 24 19 = 9) : Ra24.memory s x = Ra24.access (placeOf s x) 1 (.ok (Ra24.next (Ra24.set s (Ra24.field x 29 25) (Ra24.widened (Ra24.get s (placeOf s x) 1) 8)))) := by
  unfold Ra24.memory
  rw [h]
  rfl
theorem memory_10 {s : Ra24.M} {x : Nat} (h : Ra24.field x 24 19 = 10) : Ra24.memory s x = Ra24.access (placeOf s x) 2 (.ok (Ra24.next (Ra24.set s (Ra24.field x 29 25) (Ra24.widened (Ra24.get s (placeOf s x) 2) 16)))) := by
  unfold Ra24.memory
  rw [h]
  rfl
theorem memory_13 {s : Ra24.M} {x : Nat} (h : Ra24.field x 24 19 = 13) : Ra24.memory s x = Ra24.access (placeOf s x) 1 (.ok (Ra24.next (Ra24.put (Ra24.set s (Ra24.field x 29 25) (Ra24.get s (placeOf s x) 1)) (placeOf s x) 1 255))) := by
  unfold Ra24.memory
  rw [h]
  rfl
theorem memory_15 {s : Ra24.M} {x : Nat} (h : Ra24.field x 24 19 = 15) : Ra24.memory s x = Ra24.access (placeOf s x) 4 (.ok (Ra24.next (Ra24.put (Ra24.set s (Ra24.field x 29 25) (Ra24.get s (placeOf s x) 4)) (placeOf s x) 4 (Ra24.reg s (Ra24.field x 29 25))))) := by
  unfold Ra24.memory
  rw [h]
  rfl
section
variable {K : PySem.W.Frag} {mg : Str → Option Value} {A : Ad} {s : Ra24.M} {H H1 : Hp} {Q : VK} {E : XK} {x : Nat}
theorem GoOut.mono {g : Ra24.Go} (q : GoOut K H A Q E g) (s1 : Same H H1) : GoOut K H1 A Q E g := by
  cases g with
  | error t => exact fun d H' s2 hd => q d H' (s1.trans s2) hd
  | ok s' => exact fun H' M' f' => q H' M' ((Fr.same s1).trans f')
theorem move_rest (T : Txt K mg) {op n : Nat} {m' : Ra24.M} (hl : sizesL.lookup (op : Int) = some (n : Int)) (hn : 0 < n ∧ n ≤ 8) (M1 : Mach K H1 A s) (hg : GoOut K H1 A Q E (Ra24.access (placeOf s x) n (.ok (Ra24.next m'))))
    (tail : placeOf s x + n ≤ 65536 → MachOut K H1 A Q (Ra24.next m') → t_move_tail K { nx := fun _ H' => Q .non H', rt := Q } [some (.ref A.m), some (.int (x : Int)), some (.int (op : Int)), some (.int (Ra24.field x 29 25 : Int)), some (.int (placeOf s x : Int)), some (.int (Ra24.reg s (Ra24.field x 29 25) : Int))] H1) :
    (tSeq (tAsg (tMeth (He.ga K "Machine") "place_for" (sp_Machine_place_for K) [] E (tVar 0) (tCons (tVar 1) (tCons (tOp (rSizes K) (tC (.ref (He.ga K "SIZES"))) (tVar 2)) tNil))) (gName 4))
    (tSeq (tAsg (tMeth (He.ga K "Registers") "read" (sp_Registers_read K) [] E0 (tFld K (tVar 0) "registers") (tCons (tVar 3) tNil)) (gName 5)) (t_move_tail K))) { nx := fun _ H' => Q .non H', rt := Q } [some (.ref A.m), some (.int (x : Int)), some (.int (op : Int)), some (.int (Ra24.field x 29 25 : Int)), none, none] H1 := by
  obtain ⟨c1, hm1, _⟩ := M1.m
  have eM : Ra24.MEMORY = 65536 := rfl
  unfold Ra24.access at hg
  rw [eM] at hg
  refine ⟨_, rfl, _, _, _, rfl, hm1, mf_none (by decide +kernel), _, rfl, _, rfl, (op : Int), (n : Int), rfl, rfl, hl, A, s, x, n, rfl, M1, hn, ?_⟩
  by_cases h7 : placeOf s x % n ≠ 0
  · rw [if_pos h7] at hg ⊢
    exact hg
  · rw [if_neg h7] at hg ⊢
    by_cases h9 : 65536 < placeOf s x + n
    · rw [if_pos h9] at hg ⊢
      exact hg
    · rw [if_neg h9] at hg ⊢
      exact ⟨_, rfl, _, _, _, _, _, rfl, hm1, T.cl_Machine, T.n_Machine_registers, mf_registers, _, _, _, rfl, M1.r, rf_none (by decide +kernel), _, rfl, A, s, _, rfl, M1, field_lt x 29 25, tail (by omega) hg⟩
theorem move_all (T : Txt K mg) (M1 : Mach K H1 A s) (hz : sz (Ra24.field x 24 19) ≠ 0) (hodd : ¬ ((Ra24.field x 24 19 = 3 ∨ Ra24.field x 24 19 = 7) ∧ Ra24.field x 29 25 % 2 = 1)) (hQ : GoOut K H1 A Q E (Ra24.memory s x)) :
    (tSeq (tAsg (tMeth (He.ga K "Machine") "place_for" (sp_Machine_place_for K) [] E (tVar 0) (tCons (tVar 1) (tCons (tOp (rSizes K) (tC (.ref (He.ga K "SIZES"))) (tVar 2)) tNil))) (gName 4))
    (tSeq (tAsg (tMeth (He.ga K "Registers") "read" (sp_Registers_read K) [] E0 (tFld K (tVar 0) "registers") (tCons (tVar 3) tNil)) (gName 5)) (t_move_tail K))) { nx := fun _ H' => Q .non H', rt := Q } [some (.ref A.m), some (.int (x : Int)), some (.int (Ra24.field x 24 19 : Int)), some (.int (Ra24.field x 29 25 : Int)), none, none] H1 := by
  have hrd := field_lt x 29 25
  have z : Ra24.field x 24 19 = 0 ∨ Ra24.field x 24 19 = 1 ∨ Ra24.field x 24 19 = 2 ∨ Ra24.field x 24 19 = 3 ∨ Ra24.field x 24 19 = 4 ∨ Ra24.field x 24 19 = 5 ∨ Ra24.field x 24 19 = 6 ∨ Ra24.field x 24 19 = 7 ∨ Ra24.field x 24 19 = 9 ∨ Ra24.field x 24 19 = 10 ∨ Ra24.field x 24 19 = 13 ∨ Ra24.field x 24 19 = 15 := by
    unfold sz at hz
    split at hz
    · omega
    · split at hz
      · omega
      · split at hz
        · omega
        · split at hz
          · omega
          · exact absurd rfl hz
  rcases z with z | z | z | z | z | z | z | z | z | z | z | z
  · rw [memory_0 z] at hQ
    rw [z]
    refine move_rest T (op := 0) (n := 4) (by decide) ⟨by decide, by decide⟩ M1 hQ fun hp q => move_load T (op := 0) (n := 4) (by decide) (by decide) ⟨by decide, by decide⟩ M1 hp hrd (wrap_nat ?_) q
    have h1 := get_lt M1.ok (placeOf s x) 4
    have h2 : (256 : Nat) ^ 4 ≤ 4294967296 := by decide
    rw [Wv]
    omega
  · rw [memory_1 z] at hQ
    rw [z]
    refine move_rest T (op := 1) (n := 1) (by decide) ⟨by decide, by decide⟩ M1 hQ fun hp q => move_load T (op := 1) (n := 1) (by decide) (by decide) ⟨by decide, by decide⟩ M1 hp hrd (wrap_nat ?_) q
    have h1 := get_lt M1.ok (placeOf s x) 1
    have h2 : (256 : Nat) ^ 1 ≤ 4294967296 := by decide
    rw [Wv]
    omega
  · rw [memory_2 z] at hQ
    rw [z]
    refine move_rest T (op := 2) (n := 2) (by decide) ⟨by decide, by decide⟩ M1 hQ fun hp q => move_load T (op := 2) (n := 2) (by decide) (by decide) ⟨by decide, by decide⟩ M1 hp hrd (wrap_nat ?_) q
    have h1 := get_lt M1.ok (placeOf s x) 2
    have h2 : (256 : Nat) ^ 2 ≤ 4294967296 := by decide
    rw [Wv]
    omega
  · rw [memory_3 z (by omega)] at hQ
    rw [z]
    refine move_rest T (op := 3) (n := 8) (by decide) ⟨by decide, by decide⟩ M1 hQ fun hp q => move_3 T M1 hp hrd (by omega) q
  · rw [memory_4 z] at hQ
    rw [z]
    refine move_rest T (op := 4) (n := 4) (by decide) ⟨by decide, by decide⟩ M1 hQ fun hp q => move_456 T (op := 4) (n := 4) (by decide) (by decide) ⟨by decide, by decide⟩ M1 hp q
  · rw [memory_5 z] at hQ
    rw [z]
    rw [put_mod1] at hQ
    refine move_rest T (op := 5) (n := 1) (by decide) ⟨by decide, by decide⟩ M1 hQ fun hp q => move_456 T (op := 5) (n := 1) (by decide) (by decide) ⟨by decide, by decide⟩ M1 hp q
  · rw [memory_6 z] at hQ
    rw [z]
    rw [put_mod2] at hQ
    refine move_rest T (op := 6) (n := 2) (by decide) ⟨by decide, by decide⟩ M1 hQ fun hp q => move_456 T (op := 6) (n := 2) (by decide) (by decide) ⟨by decide, by decide⟩ M1 hp q
  · rw [memory_7 z (by omega)] at hQ
    rw [z]
    refine move_rest T (op := 7) (n := 8) (by decide) ⟨by decide, by decide⟩ M1 hQ fun hp q => move_7 T M1 hp hrd (by omega) q
  · rw [memory_9 z] at hQ
    rw [z]
    refine move_rest T (op := 9) (n := 1) (by decide) ⟨by decide, by decide⟩ M1 hQ fun hp q => move_load T (op := 9) (n := 1) (by decide) (by decide) ⟨by decide, by decide⟩ M1 hp hrd ?_ q
    have h1 : Ra24.get s (placeOf s x) 1 < 2 ^ 8 := get1_lt M1.ok (placeOf s x)
    have h2 := widened_is (b := 8) ⟨by decide, by decide⟩ h1
    have h3 := wrap_cast (psg (Ra24.get s (placeOf s x) 1) 8)
    have h4 : Ra24.wrap (psg (Ra24.get s (placeOf s x) 1) 8) = Ra24.widened (Ra24.get s (placeOf s x) 1) 8 := by omega
    exact h4
  · rw [memory_10 z] at hQ
    rw [z]
    refine move_rest T (op := 10) (n := 2) (by decide) ⟨by decide, by decide⟩ M1 hQ fun hp q => move_load T (op := 10) (n := 2) (by decide) (by decide) ⟨by decide, by decide⟩ M1 hp hrd ?_ q
    have h1 : Ra24.get s (placeOf s x) 2 < 2 ^ 16 := get2_lt M1.ok (placeOf s x)
    have h2 := widened_is (b := 16) ⟨by decide, by decide⟩ h1
    have h3 := wrap_cast (psg (Ra24.get s (placeOf s x) 2) 16)
    have h4 : Ra24.wrap (psg (Ra24.get s (placeOf s x) 2) 16) = Ra24.widened (Ra24.get s (placeOf s x) 2) 16 := by omega
    exact h4
  · rw [memory_13 z] at hQ
    rw [z]
    refine move_rest T (op := 13) (n := 1) (by decide) ⟨by decide, by decide⟩ M1 hQ fun hp q => move_swap T (op := 13) (n := 1) (by decide) (by decide) (by decide) M1 hp hrd rfl q
  · rw [memory_15 z] at hQ
    rw [z]
    refine move_rest T (op := 15) (n := 4) (by decide) ⟨by decide, by decide⟩ M1 hQ fun hp q => move_swap T (op := 15) (n := 4) (by decide) (by decide) (by decide) M1 hp hrd rfl q
theorem pure_Machine_move (T : Txt K mg) : ∀ vs H Q E, sp_Machine_move K vs H Q E → t_Machine_move K E { nx := fun _ H' => Q .non H', rt := Q } (start ["self", "ins", "op", "d", "at", "word"] vs) H := by
  rintro vs H Q E ⟨A, s, x, rfl, M, hQ⟩
  refine ⟨_, rfl, x, 19, 6, rfl, (by decide), ?_⟩
  refine ⟨_, rfl, x, 25, 5, rfl, (by decide), ?_⟩
  rw [field_is x 19 6 24 rfl, field_is x 25 5 29 rfl]
  have hlu := lookup_sz (Ra24.field x 24 19) (field_lt x 24 19)
  refine ⟨_, rfl, (Ra24.field x 24 19 : Int), rfl, rfl, _, rfl, ?_⟩
  by_cases hz : sz (Ra24.field x 24 19) = 0
  · rw [if_pos hz] at hlu
    rw [hlu]
    rw [memory_bad hz] at hQ
    exact ⟨2, rfl, fun d H' s hd => hQ d H' s hd⟩
  · rw [if_neg hz] at hlu
    rw [hlu]
    refine ⟨_, rfl, (by show 2 ≤ sizeLine; decide), fun l hl => ⟨l, _, rfl, Or.inr (SqT.of upd_same), rfl, rfl, _, rfl, ?_⟩⟩
    have s1 : Same H (upd H l (.tup [.int 3, .int 7])) := Same.new hl
    have M1 := M.mono s1
    have q1 := hQ.mono s1
    show if inV (.int (Ra24.field x 24 19 : Int)) [.int 3, .int 7] = true then _ else _
    rw [in2]
    by_cases h37 : Ra24.field x 24 19 = 3 ∨ Ra24.field x 24 19 = 7
    · refine (if_pos ?_).mpr ?_
      · rcases h37 with z | z <;> rw [z] <;> rfl
      refine ⟨_, rfl, _, _, rfl, rfl, (show (0 : Int) < 2 by decide), rfl, _, rfl, iteEq (fun h => ?_) fun h => ?_⟩
      · rw [memory_odd h37 (by omega)] at q1
        exact ⟨2, rfl, fun d H' s hd => q1 d H' s hd⟩
      · exact move_all T M1 hz (fun z => h (by omega)) q1
    · refine (if_neg ?_).mpr (iteF (move_all T M1 hz (fun z => h37 z.1) q1))
      rw [decide_eq_false (by omega), decide_eq_false (by omega)]
      decide
end
end Wd
set_option Elab.async false
set_option linter.all false
set_option maxRecDepth 100000
set_option maxHeartbeats 4000000
namespace Wd
open PySem PySem.Spec PyProof.Rows L2
/-! ### the promises of the desk -/
def intsV (l : List Int) : List V := l.map fun (z : Int) => V.int z
def natsV (l : List Nat) : List V := l.map fun (n : Nat) => V.int (n : Int)
def setM (s : Ra24.M) (k x : Nat) : Ra24.M :=
  if k < 32 then Ra24.set s k x else if k = 32 then { s with y := x } else if k = 33 then { s with icc := ⟨x.testBit 3, x.testBit 2, x.testBit 1, x.testBit 0⟩ }
  else if k = 34 then { s with pc := x / 4 * 4 } else if k = 35 then { s with npc := x / 4 * 4 } else if k = 36 then { s with cwp := x % 8 } else { s with wim := x % 256 }
def getM (s : Ra24.M) (k : Nat) : Nat :=
  if k < 32 then Ra24.reg s k else if k = 32 then s.y else if k = 33 then Ra24.iccByte s.icc else if k = 34 then s.pc else if k = 35 then s.npc else if k = 36 then s.cwp else s.wim
/-- a machine's addresses then: those of before, or new ones -/
def AdN (H : Hp) (A A' : Ad) : Prop := A'.m = A.m ∧ ∀ b, A'.own b → A.own b ∨ H b = none
/-- a new list, and a machine as told -/
def ListOut (K : PySem.W.Frag) (H : Hp) (A : Ad) (Q : VK) (s' : Ra24.M) (l : List Int) : Prop :=
  ∀ H' p A', H p = none → H' p = some (.lst (intsV l)) → Mach K H' A' s' → AdN H A A' → Fr A H H' → (∀ b, H' b = none → H b = none) → Q (.ref p) H'
def sp_set_special (K : PySem.W.Frag) : Sp := fun vs H Q _ => ∃ (A : Ad) (s : Ra24.M) (k x : Nat), vs = [.ref A.m, .int k, .int x] ∧ Mach K H A s ∧ (32 ≤ k ∧ k ≤ 37) ∧ x < Ra24.W ∧ MachOut K H A Q (setM s k x)
def sp_set_one (K : PySem.W.Frag) : Sp := fun vs H Q _ => ∃ (A : Ad) (s : Ra24.M) (k : Int) (x : Nat), vs = [.ref A.m, .int k, .int x] ∧ Mach K H A s ∧ x < Ra24.W ∧
  if k < 0 ∨ 37 < k then ListOut K H A Q s [-2] else ListOut K H A Q (setM s k.toNat x) [0]
def sp_get_one (K : PySem.W.Frag) : Sp := fun vs H Q _ => ∃ (A : Ad) (s : Ra24.M) (k : Int), vs = [.ref A.m, .int k] ∧ Mach K H A s ∧
  if k < 0 ∨ 37 < k then ListOut K H A Q s [-2] else ListOut K H A Q s [0, (getM s k.toNat : Int)]
def sp_steps_done (K : PySem.W.Frag) : Sp := fun vs H Q _ => ∃ (A : Ad) (s : Ra24.M) (n : Nat), vs = [.ref A.m, .int n] ∧ Mach K H A s ∧
  ∀ s' t d, Ra24.run n 0 s = (s', t, d) → ListOut K H A Q s' [(d : Int), (t : Int)]
def memoL (s : Ra24.M) : List Nat := (List.range 65536).map s.mem
def sp_changes (K : PySem.W.Frag) : Sp := fun vs H Q _ => ∃ (A : Ad) (s : Ra24.M) (r : Addr) (row : List Nat), vs = [.ref A.m, .ref r] ∧ Mach K H A s ∧ H r = some (.lst (natsV row)) ∧ row.length ≤ 1024 ∧
  ∀ H' p, H p = none → H' p = some (.lst (natsV (Ra24Neutral.changed row (memoL s) 0))) → Same H H' → Q (.ref p) H'
def runOut (s : Ra24.M) (k : Int) (row : List Nat) : Ra24.M × List Int := if k < 0 ∨ 1000000 < k then (s, [-2]) else
  let r := Ra24.run k.toNat 0 { s with mem := fun q => row.getD q 0 }
  (r.1, (r.2.2 : Int) :: (r.2.1 : Int) :: Ra24Neutral.counted (Ra24Neutral.ints (Ra24Neutral.changed row (memoL r.1) 0)))
def sp_run (K : PySem.W.Frag) : Sp := fun vs H Q _ => ∃ (A : Ad) (s : Ra24.M) (k : Int) (r : Addr) (row : List Nat), vs = [.ref A.m, .int k, .ref r] ∧ Mach K H A s ∧ H r = some (.lst (natsV row)) ∧ ¬ A.own r ∧ (row.length ≤ 1024 ∧ ∀ n ∈ row, n < 256) ∧
  ListOut K H A Q (runOut s k row).1 (runOut s k row).2
def sp_answer (K : PySem.W.Frag) : Sp := fun vs H Q E => ∃ (m g : Addr) (r : V) (n : Int), vs = [.ref m, .int n, .ref g, r] ∧
  ((n = 1 ∧ ∃ k x : Int, H g = some (.lst [.int k, .int x]) ∧ sp_set_one K [.ref m, .int k, .int x] H Q E) ∨ (n = 2 ∧ ∃ k : Int, H g = some (.lst [.int k]) ∧ sp_get_one K [.ref m, .int k] H Q E) ∨
    (n = 3 ∧ ∃ k : Int, H g = some (.lst [.int k]) ∧ sp_run K [.ref m, .int k, r] H Q E))
def sp_list_at (K : PySem.W.Frag) : Sp := fun vs H Q _ => ∃ (c : Addr) (n : Int) (j : Nat) (xs : List V), vs = [.ref c, .int n, .int j] ∧ SqL K H c xs ∧
  ((n ≠ 3 ∧ ∀ p, H p = none → Q (.ref p) (upd H p (.lst []))) ∨ (n = 3 ∧ ∃ m : Nat, xs[j]? = some (.int (m : Int)) ∧ j + 1 + m ≤ xs.length ∧ ∀ p, H p = none → Q (.ref p) (upd H p (.lst ((xs.drop (j + 1)).take m)))))
def sp_size_of_list (K : PySem.W.Frag) : Sp := fun vs H Q _ => ∃ (c : Addr) (n : Int) (j : Nat) (xs : List V), vs = [.ref c, .int n, .int j] ∧ SqL K H c xs ∧
  ((n ≠ 3 ∧ Q (.int 0) H) ∨ (n = 3 ∧ ∃ m : Nat, xs[j]? = some (.int (m : Int)) ∧ Q (.int ((1 + m : Nat) : Int)) H))
def sp_answers (K : PySem.W.Frag) : Sp := fun vs H Q _ => ∃ (c : Addr) (l : List Int), vs = [.ref c] ∧ SqL K H c (intsV l) ∧ PyRa24.answers_asked l = true ∧ ∀ H' p, H' p = some (.lst (intsV (PyRa24.answers l))) → Q (.ref p) H'
end Wd
set_option Elab.async false
set_option linter.all false
set_option maxRecDepth 100000
set_option maxHeartbeats 4000000
namespace Wd
open PySem PySem.Spec PyProof.Rows L2
section
variable {P : Program} {w : World} {K : PySem.W.Frag} {mg : Str → Option Value} {base : Heap}
theorem sc_set_special : FnScope ["machine", "which", "value"] ["machine", "which", "value"] (defScope s_set_special) := ⟨rfl, rfl, rfl, by decide +kernel, rfl, by decide +kernel, by decide +kernel⟩
def t_set_special (K : PySem.W.Frag) (E : XK) : TS :=
  (tIfS (tTest (tOp rEq (tVar 1) (tC (.int 32)))) (tDrop (tMeth (He.ga K "Machine") "set_y" (sp_Machine_set_y K) [] E0 (tVar 0) (tCons (tVar 2) tNil))) (tIfS (tTest (tOp rEq (tVar 1) (tC (.int 33)))) (tDrop (tMeth (He.ga K "Machine") "set_conditions" (sp_Machine_set_conditions K) [] E0 (tVar 0) (tCons (tCall (sp_conditions_of K) [] E0 (tCons (tVar 2) tNil)) tNil))) (tIfS (tTest (tOp rEq (tVar 1) (tC (.int 34)))) (tDrop (tMeth (He.ga K "Machine") "set_places" (sp_Machine_set_places K) [] E0 (tVar 0) (tCons (tOp rSubI (tVar 2) (tOp rModI (tVar 2) (tC (.int 4)))) (tCons (tFld K (tVar 0) "after") tNil)))) (tIfS (tTest (tOp rEq (tVar 1) (tC (.int 35)))) (tDrop (tMeth (He.ga K "Machine") "set_places" (sp_Machine_set_places K) [] E0 (tVar 0) (tCons (tFld K (tVar 0) "place") (tCons (tOp rSubI (tVar 2) (tOp rModI (tVar 2) (tC (.int 4)))) tNil)))) (tIfS (tTest (tOp rEq (tVar 1) (tC (.int 36)))) (tDrop (tMeth (He.ga K "Registers") "set_window" (sp_Registers_set_window K) [] E0 (tFld K (tVar 0) "registers") (tCons (tVar 2) tNil))) (tDrop (tMeth (He.ga K "Registers") "set_mask" (sp_Registers_set_mask K) [] E0 (tFld K (tVar 0) "registers") (tCons (tOp rModI (tVar 2) (tC (.int 256))) tNil))))))))
theorem ok_set_special (T : Txt K mg) (G_Machine_set_y : MethG P w K mg base CX0 1 (He.ga K "Machine") "set_y" ["self", "word"] (sp_Machine_set_y K)) (G_conditions_of : CallG P w K mg base CX0 3 "conditions_of" ["bits"] (sp_conditions_of K)) (G_Machine_set_conditions : MethG P w K mg base CX0 1 (He.ga K "Machine") "set_conditions" ["self", "conditions"] (sp_Machine_set_conditions K)) (G_Machine_set_places : MethG P w K mg base CX0 1 (He.ga K "Machine") "set_places" ["self", "place", "after"] (sp_Machine_set_places K)) (G_Registers_set_window : MethG P w K mg base CX0 1 (He.ga K "Registers") "set_window" ["self", "window"] (sp_Registers_set_window K)) (G_Registers_set_mask : MethG P w K mg base CX0 1 (He.ga K "Registers") "set_mask" ["self", "mask"] (sp_Registers_set_mask K)) (len : ∀ vs H Q E, sp_set_special K vs H Q E → vs.length = 3)
    (pure : ∀ vs H Q E, sp_set_special K vs H Q E → t_set_special K E { nx := fun _ H' => Q .non H', rt := Q } (start ["machine", "which", "value"] vs) H) : CallG P w K mg base CX0 4 "set_special" ["machine", "which", "value"] (sp_set_special K) := by
  obtain ⟨fd, F⟩ := T.d_set_special
  refine ⟨_, fd, F.ok sc_set_special len (fun cdv A outer s H vs Q E hr h => ⟨t_set_special K E, ?_, pure vs H Q E h⟩), T.g_set_special, F.kp, F.bindsN fun _ _ _ _ _ _ us hl => match us, hl with | [_, _, _], _ => rfl⟩
  exact PSs.nox (pss_one (ps_if (pt_cmpR op_eq (pv 1) pe_int (nomark _)) (pss_one (ps_expr (pm G_Machine_set_y T.cl_Machine (hr.mono (by decide)) pass0 (pv 0) (by exact (pa_cons (pv 2) pa_nil))))) (pss_one (ps_if (pt_cmpR op_eq (pv 1) pe_int (nomark _)) (pss_one (ps_expr (pm G_Machine_set_conditions T.cl_Machine (hr.mono (by decide)) pass0 (pv 0) (by exact (pa_cons (pc G_conditions_of (hr.mono (by decide)) pass0 (by exact (pa_cons (pv 2) pa_nil))) pa_nil))))) (pss_one (ps_if (pt_cmpR op_eq (pv 1) pe_int (nomark _)) (pss_one (ps_expr (pm G_Machine_set_places T.cl_Machine (hr.mono (by decide)) pass0 (pv 0) (by exact (pa_cons (pe_op op_sub (pv 2) (pe_op op_mod (pv 2) pe_int)) (pa_cons (pe_fld (pv 0) rfl) pa_nil)))))) (pss_one (ps_if (pt_cmpR op_eq (pv 1) pe_int (nomark _)) (pss_one (ps_expr (pm G_Machine_set_places T.cl_Machine (hr.mono (by decide)) pass0 (pv 0) (by exact (pa_cons (pe_fld (pv 0) rfl) (pa_cons (pe_op op_sub (pv 2) (pe_op op_mod (pv 2) pe_int)) pa_nil)))))) (pss_one (ps_if (pt_cmpR op_eq (pv 1) pe_int (nomark _)) (pss_one (ps_expr (pm G_Registers_set_window T.cl_Registers (hr.mono (by decide)) pass0 (pe_fld (pv 0) rfl) (by exact (pa_cons (pv 2) pa_nil))))) (pss_one (ps_expr (pm G_Registers_set_mask T.cl_Registers (hr.mono (by decide)) pass0 (pe_fld (pv 0) rfl) (by exact (pa_cons (pe_op op_mod (pv 2) pe_int) pa_nil)))))))))))))))
theorem sc_set_one : FnScope ["machine", "which", "value"] ["machine", "which", "value"] (defScope s_set_one) := ⟨rfl, rfl, rfl, by decide +kernel, rfl, by decide +kernel, by decide +kernel⟩
def t_set_one (K : PySem.W.Frag) (E : XK) : TS :=
  (tSeq (tIfS (tNot (tTest (tChain rLeB rLeB (tC (.int 0)) (tVar 1) (tC (.int 37))))) (tRet (tLst (tCons (tC (.int (-2))) tNil))) tNext)
    (tSeq (tIfS (tTest (tOp rLtB (tVar 1) (tC (.int 32)))) (tDrop (tMeth (He.ga K "Registers") "write" (sp_Registers_write K) [] E0 (tFld K (tVar 0) "registers") (tCons (tVar 1) (tCons (tVar 2) tNil)))) (tDrop (tCall (sp_set_special K) [] E0 (tCons (tVar 0) (tCons (tVar 1) (tCons (tVar 2) tNil))))))
    (tRet (tLst (tCons (tC (.int 0)) tNil)))))
theorem ok_set_one (T : Txt K mg) (G_Registers_write : MethG P w K mg base CX0 2 (He.ga K "Registers") "write" ["self", "k", "word"] (sp_Registers_write K)) (G_set_special : CallG P w K mg base CX0 4 "set_special" ["machine", "which", "value"] (sp_set_special K)) (len : ∀ vs H Q E, sp_set_one K vs H Q E → vs.length = 3)
    (pure : ∀ vs H Q E, sp_set_one K vs H Q E → t_set_one K E { nx := fun _ H' => Q .non H', rt := Q } (start ["machine", "which", "value"] vs) H) : CallG P w K mg base CX0 5 "set_one" ["machine", "which", "value"] (sp_set_one K) := by
  obtain ⟨fd, F⟩ := T.d_set_one
  refine ⟨_, fd, F.ok sc_set_one len (fun cdv A outer s H vs Q E hr h => ⟨t_set_one K E, ?_, pure vs H Q E h⟩), T.g_set_one, F.kp, F.bindsN fun _ _ _ _ _ _ us hl => match us, hl with | [_, _, _], _ => rfl⟩
  exact PSs.nox (pss_cons (ps_if (pt_not (pt_chain op_le op_le pe_int (pv 1) (pgi T.i_MOST_WHICH))) (pss_one (ps_ret (pe_lst (pa_cons (pgi T.i_OUT) pa_nil)))) pss_nil)
      (pss_cons (ps_if (pt_cmpR op_lt (pv 1) (pgi T.i_REGISTERS) (nomark _)) (pss_one (ps_expr (pm G_Registers_write T.cl_Registers (hr.mono (by decide)) pass0 (pe_fld (pv 0) rfl) (by exact (pa_cons (pv 1) (pa_cons (pv 2) pa_nil)))))) (pss_one (ps_expr (pc G_set_special (hr.mono (by decide)) pass0 (by exact (pa_cons (pv 0) (pa_cons (pv 1) (pa_cons (pv 2) pa_nil))))))))
      (pss_one (ps_ret (pe_lst (pa_cons pe_int pa_nil))))))
theorem sc_get_one : FnScope ["machine", "which", "registers", "others"] ["machine", "which"] (defScope s_get_one) := ⟨rfl, rfl, rfl, by decide +kernel, rfl, by decide +kernel, by decide +kernel⟩
def t_get_one (K : PySem.W.Frag) (E : XK) : TS :=
  (tSeq (tIfS (tNot (tTest (tChain rLeB rLeB (tC (.int 0)) (tVar 1) (tC (.int 37))))) (tRet (tLst (tCons (tC (.int (-2))) tNil))) tNext)
    (tSeq (tIfS (tTest (tOp rLtB (tVar 1) (tC (.int 32)))) (tRet (tLst (tCons (tC (.int 0)) (tCons (tMeth (He.ga K "Registers") "read" (sp_Registers_read K) [] E0 (tFld K (tVar 0) "registers") (tCons (tVar 1) tNil)) tNil)))) tNext)
    (tSeq (tAsg (tFld K (tVar 0) "registers") (gName 2))
    (tSeq (tAsg (tLst (tCons (tFld K (tVar 0) "y") (tCons (tMeth (He.ga K "Conditions") "bits" (sp_Conditions_bits K) [] E0 (tFld K (tVar 0) "conditions") tNil) (tCons (tFld K (tVar 0) "place") (tCons (tFld K (tVar 0) "after") (tCons (tFld K (tVar 2) "window") (tCons (tFld K (tVar 2) "mask") tNil))))))) (gName 3))
    (tRet (tLst (tCons (tC (.int 0)) (tCons (tOp (rIxL K) (tVar 3) (tOp rSubI (tVar 1) (tC (.int 32)))) tNil))))))))
theorem ok_get_one (T : Txt K mg) (G_Conditions_bits : MethG P w K mg base CX0 1 (He.ga K "Conditions") "bits" ["self"] (sp_Conditions_bits K)) (G_Registers_read : MethG P w K mg base CX0 2 (He.ga K "Registers") "read" ["self", "k"] (sp_Registers_read K)) (len : ∀ vs H Q E, sp_get_one K vs H Q E → vs.length = 2)
    (pure : ∀ vs H Q E, sp_get_one K vs H Q E → t_get_one K E { nx := fun _ H' => Q .non H', rt := Q } (start ["machine", "which", "registers", "others"] vs) H) : CallG P w K mg base CX0 3 "get_one" ["machine", "which"] (sp_get_one K) := by
  obtain ⟨fd, F⟩ := T.d_get_one
  refine ⟨_, fd, F.ok sc_get_one len (fun cdv A outer s H vs Q E hr h => ⟨t_get_one K E, ?_, pure vs H Q E h⟩), T.g_get_one, F.kp, F.bindsN fun _ _ _ _ _ _ us hl => match us, hl with | [_, _], _ => rfl⟩
  exact PSs.nox (pss_cons (ps_if (pt_not (pt_chain op_le op_le pe_int (pv 1) (pgi T.i_MOST_WHICH))) (pss_one (ps_ret (pe_lst (pa_cons (pgi T.i_OUT) pa_nil)))) pss_nil)
      (pss_cons (ps_if (pt_cmpR op_lt (pv 1) (pgi T.i_REGISTERS) (nomark _)) (pss_one (ps_ret (pe_lst (pa_cons pe_int (pa_cons (pm G_Registers_read T.cl_Registers (hr.mono (by decide)) pass0 (pe_fld (pv 0) rfl) (by exact (pa_cons (pv 1) pa_nil))) pa_nil))))) pss_nil)
      (pss_cons (ps_set (i := 2) sc_get_one.nd rfl (Or.inl rfl) (pe_fld (pv 0) rfl))
      (pss_cons (ps_set (i := 3) sc_get_one.nd rfl (Or.inl rfl) (pe_lst (pa_cons (pe_fld (pv 0) rfl) (pa_cons (pm0 G_Conditions_bits T.cl_Conditions (hr.mono (by decide)) pass0 (pe_fld (pv 0) rfl)) (pa_cons (pe_fld (pv 0) rfl) (pa_cons (pe_fld (pv 0) rfl) (pa_cons (pe_fld (pv 2) rfl) (pa_cons (pe_fld (pv 2) rfl) pa_nil))))))))
      (pss_one (ps_ret (pe_lst (pa_cons pe_int (pa_cons (pe_ix ix_list (pv 3) (pe_op op_sub (pv 1) (pgi T.i_REGISTERS)) (fun _ _ => rfl)) pa_nil)))))))))
theorem sc_changes : FnScope ["machine", "row", "found", "before", "place", "byte"] ["machine", "row"] (defScope s_changes) := ⟨rfl, rfl, rfl, by decide +kernel, rfl, by decide +kernel, by decide +kernel⟩
def t_changes (K : PySem.W.Frag) (E : XK) : TS :=
  (tSeq (tAsg (tLst tNil) (gName 2))
    (tSeq (tAsg (tOp rCat (tVar 1) (tOp rRep (tLst (tCons (tC (.int 0)) tNil)) (tOp rSubI (tCB (rLenL K) (tCons (tFld K (tVar 0) "memory") tNil)) (tCB (rLenL K) (tCons (tVar 1) tNil))))) (gName 3))
    (tSeq (tFor (iEnum K (tCons (tFld K (tVar 0) "memory") tNil)) (gTup K 2 (gCons (gName 4) (gCons (gName 5) gNil))) (tIfS (tTest (tOp rNe (tVar 5) (tOp (rIxL K) (tVar 3) (tVar 4)))) (tDrop (tBM K "list" rExtend (tVar 2) (tCons (tLst (tCons (tVar 4) (tCons (tVar 5) tNil))) tNil))) tNext))
    (tRet (tVar 2)))))
theorem ok_changes (T : Txt K mg)  (len : ∀ vs H Q E, sp_changes K vs H Q E → vs.length = 2)
    (pure : ∀ vs H Q E, sp_changes K vs H Q E → t_changes K E { nx := fun _ H' => Q .non H', rt := Q } (start ["machine", "row", "found", "before", "place", "byte"] vs) H) : CallG P w K mg base CX0 1 "changes" ["machine", "row"] (sp_changes K) := by
  obtain ⟨fd, F⟩ := T.d_changes
  refine ⟨_, fd, F.ok sc_changes len (fun cdv A outer s H vs Q E hr h => ⟨t_changes K E, ?_, pure vs H Q E h⟩), T.g_changes, F.kp, F.bindsN fun _ _ _ _ _ _ us hl => match us, hl with | [_, _], _ => rfl⟩
  exact PSs.nox (pss_cons (ps_set (i := 2) sc_changes.nd rfl (Or.inl rfl) (pe_lst pa_nil))
      (pss_cons (ps_set (i := 3) sc_changes.nd rfl (Or.inl rfl) (pe_op op_cat (pv 1) (pe_op op_rep (pe_lst (pa_cons pe_int pa_nil)) (pe_op op_sub (pe_callB call_len_seq (by rfl) T.f_len PySem.boot_len (by exact (pa_cons (pe_fld (pv 0) rfl) pa_nil))) (pe_callB call_len_seq (by rfl) T.f_len PySem.boot_len (by exact (pa_cons (pv 1) pa_nil)))))))
      (pss_cons (ps_for PassesOwn.never rfl (pi_enum (by rfl) T.f_enumerate (pa_cons (pe_fld (pv 0) rfl) pa_nil)) (pg_tup rfl (pgs_cons (pg_name (i := 4) sc_changes.nd rfl (Or.inl rfl)) (pgs_cons (pg_name (i := 5) sc_changes.nd rfl (Or.inl rfl)) pgs_nil))) (pss_one (ps_if (pt_cmpR op_ne (pv 5) (pe_ix ix_list (pv 3) (pv 4) (fun _ _ => rfl)) (nomark _)) (pss_one (ps_expr (pe_bm PySem.F.plainAttrs_list PySem.F.slot_list_extend PySem.F.type_list_extend mt_extend (pv 2) (pa_cons (pe_lst (pa_cons (pv 4) (pa_cons (pv 5) pa_nil))) pa_nil)))) pss_nil)))
      (pss_one (ps_ret (pv 2))))))
theorem sc_run : FnScope ["machine", "steps", "row", "found", "other"] ["machine", "steps", "row"] (defScope s_run) := ⟨rfl, rfl, rfl, by decide +kernel, rfl, by decide +kernel, by decide +kernel⟩
def t_run (K : PySem.W.Frag) (E : XK) : TS :=
  (tSeq (tIfS (tNot (tTest (tChain rLeB rLeB (tC (.int 0)) (tVar 1) (tC (.int 1000000))))) (tRet (tLst (tCons (tC (.int (-2))) tNil))) tNext)
    (tSeq (tDrop (tMeth (He.ga K "Machine") "set_memory" (sp_Machine_set_memory K) [] E0 (tVar 0) (tCons (tVar 2) tNil)))
    (tSeq (tAsg (tCall (sp_steps_done K) [] E0 (tCons (tVar 0) (tCons (tVar 1) tNil))) (gName 3))
    (tSeq (tAsg (tCall (sp_changes K) [] E0 (tCons (tVar 0) (tCons (tVar 2) tNil))) (gName 4))
    (tRet (tOp rCat (tOp rCat (tVar 3) (tLst (tCons (tCB (rLenL K) (tCons (tVar 4) tNil)) tNil))) (tVar 4)))))))
theorem ok_run (T : Txt K mg) (G_changes : CallG P w K mg base CX0 1 "changes" ["machine", "row"] (sp_changes K)) (G_steps_done : CallG P w K mg base CX0 10 "steps_done" ["machine", "steps"] (sp_steps_done K)) (G_Machine_set_memory : MethG P w K mg base CX0 1 (He.ga K "Machine") "set_memory" ["self", "row"] (sp_Machine_set_memory K)) (len : ∀ vs H Q E, sp_run K vs H Q E → vs.length = 3)
    (pure : ∀ vs H Q E, sp_run K vs H Q E → t_run K E { nx := fun _ H' => Q .non H', rt := Q } (start ["machine", "steps", "row", "found", "other"] vs) H) : CallG P w K mg base CX0 11 "run" ["machine", "steps", "row"] (sp_run K) := by
  obtain ⟨fd, F⟩ := T.d_run
  refine ⟨_, fd, F.ok sc_run len (fun cdv A outer s H vs Q E hr h => ⟨t_run K E, ?_, pure vs H Q E h⟩), T.g_run, F.kp, F.bindsN fun _ _ _ _ _ _ us hl => match us, hl with | [_, _, _], _ => rfl⟩
  exact PSs.nox (pss_cons (ps_if (pt_not (pt_chain op_le op_le pe_int (pv 1) (pgi T.i_MOST_STEPS))) (pss_one (ps_ret (pe_lst (pa_cons (pgi T.i_OUT) pa_nil)))) pss_nil)
      (pss_cons (ps_expr (pm G_Machine_set_memory T.cl_Machine (hr.mono (by decide)) pass0 (pv 0) (by exact (pa_cons (pv 2) pa_nil))))
      (pss_cons (ps_set (i := 3) sc_run.nd rfl (Or.inl rfl) (pc G_steps_done (hr.mono (by decide)) pass0 (by exact (pa_cons (pv 0) (pa_cons (pv 1) pa_nil)))))
      (pss_cons (ps_set (i := 4) sc_run.nd rfl (Or.inl rfl) (pc G_changes (hr.mono (by decide)) pass0 (by exact (pa_cons (pv 0) (pa_cons (pv 2) pa_nil)))))
      (pss_one (ps_ret (pe_op op_cat (pe_op op_cat (pv 3) (pe_lst (pa_cons (pe_callB call_len_seq (by rfl) T.f_len PySem.boot_len (by exact (pa_cons (pv 4) pa_nil))) pa_nil))) (pv 4))))))))
theorem sc_answer : FnScope ["machine", "number", "given", "row"] ["machine", "number", "given", "row"] (defScope s_answer) := ⟨rfl, rfl, rfl, by decide +kernel, rfl, by decide +kernel, by decide +kernel⟩
def t_answer (K : PySem.W.Frag) (E : XK) : TS :=
  (tSeq (tIfS (tTest (tOp rEq (tVar 1) (tC (.int 1)))) (tRet (tCall (sp_set_one K) [] E0 (tCons (tVar 0) (tCons (tOp (rIxL K) (tVar 2) (tC (.int 0))) (tCons (tOp (rIxL K) (tVar 2) (tC (.int 1))) tNil))))) tNext)
    (tSeq (tIfS (tTest (tOp rEq (tVar 1) (tC (.int 2)))) (tRet (tCall (sp_get_one K) [] E0 (tCons (tVar 0) (tCons (tOp (rIxL K) (tVar 2) (tC (.int 0))) tNil)))) tNext)
    (tRet (tCall (sp_run K) [] E0 (tCons (tVar 0) (tCons (tOp (rIxL K) (tVar 2) (tC (.int 0))) (tCons (tVar 3) tNil)))))))
theorem ok_answer (T : Txt K mg) (G_run : CallG P w K mg base CX0 11 "run" ["machine", "steps", "row"] (sp_run K)) (G_get_one : CallG P w K mg base CX0 3 "get_one" ["machine", "which"] (sp_get_one K)) (G_set_one : CallG P w K mg base CX0 5 "set_one" ["machine", "which", "value"] (sp_set_one K)) (len : ∀ vs H Q E, sp_answer K vs H Q E → vs.length = 4)
    (pure : ∀ vs H Q E, sp_answer K vs H Q E → t_answer K E { nx := fun _ H' => Q .non H', rt := Q } (start ["machine", "number", "given", "row"] vs) H) : CallG P w K mg base CX0 12 "answer" ["machine", "number", "given", "row"] (sp_answer K) := by
  obtain ⟨fd, F⟩ := T.d_answer
  refine ⟨_, fd, F.ok sc_answer len (fun cdv A outer s H vs Q E hr h => ⟨t_answer K E, ?_, pure vs H Q E h⟩), T.g_answer, F.kp, F.bindsN fun _ _ _ _ _ _ us hl => match us, hl with | [_, _, _, _], _ => rfl⟩
  exact PSs.nox (pss_cons (ps_if (pt_cmpR op_eq (pv 1) pe_int (nomark _)) (pss_one (ps_ret (pc G_set_one (hr.mono (by decide)) pass0 (by exact (pa_cons (pv 0) (pa_cons (pe_ix ix_list (pv 2) pe_int (fun _ _ => rfl)) (pa_cons (pe_ix ix_list (pv 2) pe_int (fun _ _ => rfl)) pa_nil))))))) pss_nil)
      (pss_cons (ps_if (pt_cmpR op_eq (pv 1) pe_int (nomark _)) (pss_one (ps_ret (pc G_get_one (hr.mono (by decide)) pass0 (by exact (pa_cons (pv 0) (pa_cons (pe_ix ix_list (pv 2) pe_int (fun _ _ => rfl)) pa_nil)))))) pss_nil)
      (pss_one (ps_ret (pc G_run (hr.mono (by decide)) pass0 (by exact (pa_cons (pv 0) (pa_cons (pe_ix ix_list (pv 2) pe_int (fun _ _ => rfl)) (pa_cons (pv 3) pa_nil)))))))))
theorem sc_list_at : FnScope ["calls", "number", "at"] ["calls", "number", "at"] (defScope s_list_at) := ⟨rfl, rfl, rfl, by decide +kernel, rfl, by decide +kernel, by decide +kernel⟩
def t_list_at (K : PySem.W.Frag) (E : XK) : TS :=
  (tSeq (tIfS (tTest (tOp rNe (tVar 1) (tC (.int 3)))) (tRet (tLst tNil)) tNext)
    (tRet (tSl (rSlL K) (tVar 0) (tPart (tOp rAddI (tVar 2) (tC (.int 1)))) (tPart (tOp rAddI (tOp rAddI (tVar 2) (tC (.int 1))) (tOp (rIxL K) (tVar 0) (tVar 2)))))))
theorem ok_list_at (T : Txt K mg)  (len : ∀ vs H Q E, sp_list_at K vs H Q E → vs.length = 3)
    (pure : ∀ vs H Q E, sp_list_at K vs H Q E → t_list_at K E { nx := fun _ H' => Q .non H', rt := Q } (start ["calls", "number", "at"] vs) H) : CallG P w K mg base CX0 1 "list_at" ["calls", "number", "at"] (sp_list_at K) := by
  obtain ⟨fd, F⟩ := T.d_list_at
  refine ⟨_, fd, F.ok sc_list_at len (fun cdv A outer s H vs Q E hr h => ⟨t_list_at K E, ?_, pure vs H Q E h⟩), T.g_list_at, F.kp, F.bindsN fun _ _ _ _ _ _ us hl => match us, hl with | [_, _, _], _ => rfl⟩
  exact PSs.nox (pss_cons (ps_if (pt_cmpR op_ne (pv 1) (pgi T.i_RUN) (nomark _)) (pss_one (ps_ret (pe_lst pa_nil))) pss_nil)
      (pss_one (ps_ret (pe_slice sl_list (pv 0) (po_some (pe_op op_add (pv 2) pe_int)) (po_some (pe_op op_add (pe_op op_add (pv 2) pe_int) (pe_ix ix_list (pv 0) (pv 2) (fun _ _ => rfl))))))))
theorem sc_size_of_list : FnScope ["calls", "number", "at"] ["calls", "number", "at"] (defScope s_size_of_list) := ⟨rfl, rfl, rfl, by decide +kernel, rfl, by decide +kernel, by decide +kernel⟩
def t_size_of_list (K : PySem.W.Frag) (E : XK) : TS :=
  (tSeq (tIfS (tTest (tOp rNe (tVar 1) (tC (.int 3)))) (tRet (tC (.int 0))) tNext)
    (tRet (tOp rAddI (tC (.int 1)) (tOp (rIxL K) (tVar 0) (tVar 2)))))
theorem ok_size_of_list (T : Txt K mg)  (len : ∀ vs H Q E, sp_size_of_list K vs H Q E → vs.length = 3)
    (pure : ∀ vs H Q E, sp_size_of_list K vs H Q E → t_size_of_list K E { nx := fun _ H' => Q .non H', rt := Q } (start ["calls", "number", "at"] vs) H) : CallG P w K mg base CX0 1 "size_of_list" ["calls", "number", "at"] (sp_size_of_list K) := by
  obtain ⟨fd, F⟩ := T.d_size_of_list
  refine ⟨_, fd, F.ok sc_size_of_list len (fun cdv A outer s H vs Q E hr h => ⟨t_size_of_list K E, ?_, pure vs H Q E h⟩), T.g_size_of_list, F.kp, F.bindsN fun _ _ _ _ _ _ us hl => match us, hl with | [_, _, _], _ => rfl⟩
  exact PSs.nox (pss_cons (ps_if (pt_cmpR op_ne (pv 1) (pgi T.i_RUN) (nomark _)) (pss_one (ps_ret pe_int)) pss_nil)
      (pss_one (ps_ret (pe_op op_add pe_int (pe_ix ix_list (pv 0) (pv 2) (fun _ _ => rfl))))))
theorem sc_answers : FnScope ["calls", "machine", "found", "at", "number", "behind", "row", "one"] ["calls"] (defScope s_answers) := ⟨rfl, rfl, rfl, by decide +kernel, rfl, by decide +kernel, by decide +kernel⟩
def t_answers (K : PySem.W.Frag) (E : XK) : TS :=
  (tSeq (tAsg (tMake (He.ga K "Machine") (sp_Machine_init K) [] E0 tNil) (gName 1))
    (tSeq (tAsg (tLst tNil) (gName 2))
    (tSeq (tAsg (tC (.int 0)) (gName 3))
    (tSeq (tWhile (tTest (tOp rLtB (tVar 3) (tCB (rLenL K) (tCons (tVar 0) tNil)))) (tSeq (tAsg (tOp (rIxL K) (tVar 0) (tVar 3)) (gName 4))
    (tSeq (tAsg (tOp rAddI (tOp rAddI (tVar 3) (tC (.int 1))) (tOp (rIxT K) (tC (.ref (He.ga K "NUMBERS"))) (tVar 4))) (gName 5))
    (tSeq (tAsg (tCall (sp_list_at K) [] E0 (tCons (tVar 0) (tCons (tVar 4) (tCons (tVar 5) tNil)))) (gName 6))
    (tSeq (tIfS (tTest (tOp rEq (tVar 4) (tC (.int 0)))) (tSeq (tAsg (tMake (He.ga K "Machine") (sp_Machine_init K) [] E0 tNil) (gName 1))
    (tAsg (tLst (tCons (tC (.int 0)) tNil)) (gName 7))) (tAsg (tCall (sp_answer K) [] E0 (tCons (tVar 1) (tCons (tVar 4) (tCons (tSl (rSlL K) (tVar 0) (tPart (tOp rAddI (tVar 3) (tC (.int 1)))) (tPart (tVar 5))) (tCons (tVar 6) tNil))))) (gName 7)))
    (tSeq (tDrop (tBM K "list" rAppend (tVar 2) (tCons (tCB (rLenL K) (tCons (tVar 7) tNil)) tNil)))
    (tSeq (tDrop (tBM K "list" rExtend (tVar 2) (tCons (tVar 7) tNil)))
    (tAsg (tOp rAddI (tVar 5) (tCall (sp_size_of_list K) [] E0 (tCons (tVar 0) (tCons (tVar 4) (tCons (tVar 5) tNil))))) (gName 3)))))))))
    (tRet (tVar 2))))))
theorem ok_answers (T : Txt K mg) (G_size_of_list : CallG P w K mg base CX0 1 "size_of_list" ["calls", "number", "at"] (sp_size_of_list K)) (G_new_Machine : MakeG P w K mg base CX0 3 "Machine" (He.ga K "Machine") ["self"] (sp_Machine_init K)) (G_answer : CallG P w K mg base CX0 12 "answer" ["machine", "number", "given", "row"] (sp_answer K)) (G_list_at : CallG P w K mg base CX0 1 "list_at" ["calls", "number", "at"] (sp_list_at K)) (len : ∀ vs H Q E, sp_answers K vs H Q E → vs.length = 1)
    (pure : ∀ vs H Q E, sp_answers K vs H Q E → t_answers K E { nx := fun _ H' => Q .non H', rt := Q } (start ["calls", "machine", "found", "at", "number", "behind", "row", "one"] vs) H) : CallG P w K mg base CX0 13 "answers" ["calls"] (sp_answers K) := by
  obtain ⟨fd, F⟩ := T.d_answers
  refine ⟨_, fd, F.ok sc_answers len (fun cdv A outer s H vs Q E hr h => ⟨t_answers K E, ?_, pure vs H Q E h⟩), T.g_answers, F.kp, F.bindsN fun _ _ _ _ _ _ us hl => match us, hl with | [_], _ => rfl⟩
  exact PSs.nox (pss_cons (ps_set (i := 1) sc_answers.nd rfl (Or.inl rfl) (pk0 G_new_Machine (hr.mono (by decide)) pass0))
      (pss_cons (ps_set (i := 2) sc_answers.nd rfl (Or.inl rfl) (pe_lst pa_nil))
      (pss_cons (ps_set (i := 3) sc_answers.nd rfl (Or.inl rfl) pe_int)
      (pss_cons (ps_while PassesOwn.never (pt_cmpR op_lt (pv 3) (pe_callB call_len_seq (by rfl) T.f_len PySem.boot_len (by exact (pa_cons (pv 0) pa_nil))) (nomark _)) (pss_cons (ps_set (i := 4) sc_answers.nd rfl (Or.inl rfl) (pe_ix ix_list (pv 0) (pv 3) (fun _ _ => rfl)))
      (pss_cons (ps_set (i := 5) sc_answers.nd rfl (Or.inl rfl) (pe_op op_add (pe_op op_add (pv 3) pe_int) (pe_ix ix_tup (pe_glob rfl T.g_NUMBERS rfl) (pv 4) (fun _ _ => rfl))))
      (pss_cons (ps_set (i := 6) sc_answers.nd rfl (Or.inl rfl) (pc G_list_at (hr.mono (by decide)) pass0 (by exact (pa_cons (pv 0) (pa_cons (pv 4) (pa_cons (pv 5) pa_nil))))))
      (pss_cons (ps_if (pt_cmpR op_eq (pv 4) (pgi T.i_RESET) (nomark _)) (pss_cons (ps_set (i := 1) sc_answers.nd rfl (Or.inl rfl) (pk0 G_new_Machine (hr.mono (by decide)) pass0))
      (pss_one (ps_set (i := 7) sc_answers.nd rfl (Or.inl rfl) (pe_lst (pa_cons pe_int pa_nil))))) (pss_one (ps_set (i := 7) sc_answers.nd rfl (Or.inl rfl) (pc G_answer (hr.mono (by decide)) pass0 (by exact (pa_cons (pv 1) (pa_cons (pv 4) (pa_cons (pe_slice sl_list (pv 0) (po_some (pe_op op_add (pv 3) pe_int)) (po_some (pv 5))) (pa_cons (pv 6) pa_nil)))))))))
      (pss_cons (ps_expr (pe_bm PySem.F.plainAttrs_list PySem.F.slot_list_append PySem.F.type_list_append mt_append (pv 2) (pa_cons (pe_callB call_len_seq (by rfl) T.f_len PySem.boot_len (by exact (pa_cons (pv 7) pa_nil))) pa_nil)))
      (pss_cons (ps_expr (pe_bm PySem.F.plainAttrs_list PySem.F.slot_list_extend PySem.F.type_list_extend mt_extend (pv 2) (pa_cons (pv 7) pa_nil)))
      (pss_one (ps_set (i := 3) sc_answers.nd rfl (Or.inl rfl) (pe_op op_add (pv 5) (pc G_size_of_list (hr.mono (by decide)) pass0 (by exact (pa_cons (pv 0) (pa_cons (pv 4) (pa_cons (pv 5) pa_nil)))))))))))))))
      (pss_one (ps_ret (pv 2)))))))
end
end Wd
set_option Elab.async false
set_option linter.all false
set_option maxRecDepth 100000
set_option maxHeartbeats 4000000
namespace Wd
open PySem PySem.Spec PyProof.Rows L2
/-! ### two bodies by hand: a comprehension; a loop within a try -/
section
variable {P : Program} {w : World} {K : PySem.W.Frag} {mg : Str → Option Value} {base : Heap}
theorem sc_Registers_init : FnScope ["self", "window"] ["self"] (defScope s_Registers_init) := ⟨rfl, rfl, rfl, by decide +kernel, rfl, by decide +kernel, by decide +kernel⟩
def t_Registers_init (K : PySem.W.Frag) (E : XK) : TS :=
  tSeq (sFld K (tVar 0) (tOp rRep (tLst (tCons (tC (.int 0)) tNil)) (tC (.int 8))) "shared")
    (tSeq (sFld K (tVar 0) (tLc (iRng1 (tCons (tC (.int 8)) tNil)) (gName 1) tYes (tOp rRep (tLst (tCons (tC (.int 0)) tNil)) (tC (.int 16))) [1]) "windows")
    (tSeq (sFld K (tVar 0) (tC (.int 0)) "window")
    (sFld K (tVar 0) (tC (.int 2)) "mask")))
theorem blk_windows : blkC ["self", "window"] (defScope s_Registers_init) { kind := .function, names := [(".0", .local), ("window", .local), ("SIXTEEN", .globalImplicit)], isGenerator := false, isCoroutine := false } [("window", 1)] = true := by decide +kernel
theorem ok_Registers_init (T : Txt K mg) (len : ∀ vs H Q E, sp_Registers_init K vs H Q E → vs.length = 1)
    (pure : ∀ vs H Q E, sp_Registers_init K vs H Q E → t_Registers_init K E { nx := fun _ H' => Q .non H', rt := Q } (start ["self", "window"] vs) H) : MakeG P w K mg base CX0 1 "Registers" (He.ga K "Registers") ["self"] (sp_Registers_init K) := by
  obtain ⟨fd, F⟩ := T.d_Registers_init
  refine ⟨_, fd, F.ok sc_Registers_init len (fun cdv A outer s H vs Q E hr h => ⟨t_Registers_init K E, ?_, pure vs H Q E h⟩), T.mk_Registers, T.g_Registers, F.bindsN fun _ _ _ _ _ _ us hl => match us, hl with | [_], _ => rfl⟩
  exact PSs.nox (pss_cons (ps_fld (pv 0) (pe_op op_rep (pe_lst (pa_cons pe_int pa_nil)) (pgi T.i_EIGHT)) rfl)
    (pss_cons (ps_fld (pv 0) (pe_lc (own := [("window", 1)]) (g := gName 1) (tt := tYes) rfl sc_Registers_init.nd (pi_range1 (by rfl) T.f_range (pa_cons (pgi T.i_WINDOWS) pa_nil)) (blkOk_by blk_windows) (fun _ _ _ _ _ => pg_name (i := 1) sc_Registers_init.nd rfl (Or.inl rfl)) (fun _ _ _ _ _ => pts_nil)
      (fun _ _ _ _ _ => pe_op op_rep (pe_lst (pa_cons pe_int pa_nil)) (pgi T.i_SIXTEEN))) rfl)
    (pss_cons (ps_fld (pv 0) pe_int rfl)
    (pss_one (ps_fld (pv 0) (pgi T.i_FIRST_MASK) rfl)))))
def tb_steps (K : PySem.W.Frag) (W : WX) : TS :=
  tWhile (tTest (tOp rLtB (tVar 2) (tVar 1))) (tSeq (tDrop (tMeth0S (He.ga K "Machine") "step" (sp_Machine_step K) (fun σ => WE W σ) (tVar 0))) (tAsg (tOp rAddI (tVar 2) (tC (.int 1))) (gName 2)))
def ts_steps (K : PySem.W.Frag) (a : Addr) (cls : Value) (d : Option Addr) : TS := tRet (tLst (tCons (tVar 2) (tCons (tXf a cls d (He.ga K "Trap") "number" (tVar 3)) tNil)))
def t_steps_done (K : PySem.W.Frag) (E : XK) : TS :=
  tSeq (tAsg (tC (.int 0)) (gName 2))
    (tSeq (fun D σ H => tb_steps K (wAs K (.ref (He.ga K "Trap")) 3 (ts_steps K) (fun _ _ _ _ => False) D) D σ H)
    (tRet (tLst (tCons (tVar 2) (tCons (tC (.int 0)) tNil)))))
theorem takesNone {X : Cx} : Takes X (fun _ _ _ _ => False) := fun _ _ x => by
  obtain ⟨_, _, _, _, _, _, _, _, _, _, _, _, _, _, _, _, z⟩ := x
  exact z.elim
theorem sc_steps_done : FnScope ["machine", "steps", "done", "trap"] ["machine", "steps"] (defScope s_steps_done) := ⟨rfl, rfl, rfl, by decide +kernel, rfl, by decide +kernel, by decide +kernel⟩
theorem ok_steps_done (T : Txt K mg) (Xt : Ex K) (G_step : MethG P w K mg base (L2.CX P w) 9 (He.ga K "Machine") "step" ["self"] (sp_Machine_step K)) (len : ∀ vs H Q E, sp_steps_done K vs H Q E → vs.length = 2)
    (pure : ∀ vs H Q E, sp_steps_done K vs H Q E → t_steps_done K E { nx := fun _ H' => Q .non H', rt := Q } (start ["machine", "steps", "done", "trap"] vs) H) : CallG P w K mg base CX0 10 "steps_done" ["machine", "steps"] (sp_steps_done K) := by
  obtain ⟨fd, F⟩ := T.d_steps_done
  refine ⟨_, fd, F.ok sc_steps_done len (fun cdv A outer s H vs Q E hr h => ⟨t_steps_done K E, ?_, pure vs H Q E h⟩), T.g_steps_done, F.kp, F.bindsN fun _ _ _ _ _ _ us hl => match us, hl with | [_, _], _ => rfl⟩
  refine PSs.nox (pss_cons (ps_set (i := 2) sc_steps_done.nd rfl (Or.inl rfl) pe_int) (pss_cons (ps_try_as (i := 3) (c := .ref (He.ga K "Trap")) (ts := ts_steps K) (tb := tb_steps K) (Wout := fun _ _ _ _ => False) rfl rfl sc_steps_done.nd rfl rfl ⟨rfl, by decide, Or.inl T.g_Trap⟩ takesNone
      (fun W pn xe tk po => ?_) (fun a oe cls d pn hz hf => ?_)) (pss_one (ps_ret (pe_lst (pa_cons (pv 2) (pa_cons pe_int pa_nil)))))))
  · exact pss_one (ps_while po (pt_cmpR op_lt (pv 2) (pv 1) (nomark _)) (pss_cons (ps_expr (pm0S G_step T.cl_Machine (hr.mono (by decide)) (fun σ => passAt tk σ) (pv 0))) (pss_one (ps_set (i := 2) sc_steps_done.nd rfl (Or.inl rfl) (pe_op op_add (pv 2) pe_int)))))
  · exact pss_one (ps_ret (pe_lst (pa_cons (pv 2) (pa_cons (pe_xf Xt.xf T.n_Trap_number hz hf (pv 3)) pa_nil))))
end
end Wd
set_option Elab.async false
set_option linter.all false
set_option maxRecDepth 100000
set_option maxHeartbeats 4000000
namespace Wd
open PySem PySem.Spec PyProof.Rows L2
theorem tab_zero (n : Nat) (f : Nat → Nat) (h : ∀ i, f i = 0) : (List.replicate n [V.int 0]).flatten = tab n f := by
  apply List.ext_getElem?
  intro i
  rw [List.flatten_replicate_singleton, List.getElem?_replicate]
  by_cases c : i < n
  · rw [if_pos c, tab_get f c, h i] <;> rfl
  · rw [if_neg c, List.getElem?_eq_none (by rw [tab_len]; omega)]
theorem sh0 : shL start0 = (List.replicate 8 [V.int 0]).flatten := (tab_zero 8 _ fun i => by
  unfold Ra24.reg
  repeat' split
  all_goals rfl).symm
theorem win0 (i : Nat) : winL start0 i = (List.replicate 16 [V.int 0]).flatten := (tab_zero 16 _ fun _ => rfl).symm
theorem mem0 : memL start0.mem = (List.replicate 65536 [V.int 0]).flatten := (tab_zero 65536 _ fun _ => rfl).symm
theorem upd_none {H : Hp} {a b : Addr} {o : HO} (h : upd H a o b = none) : b ≠ a ∧ H b = none := by
  have e : b ≠ a := fun z => by
    rw [z, upd_same] at h
    cases h
  rw [upd_ne e] at h
  exact ⟨e, h⟩
section
variable {K : PySem.W.Frag} {mg : Str → Option Value}
structure RowsAt (H1 H' : Hp) (D : Addr) (i : Nat) (wa : Nat → Addr) : Prop where
  d : H' D = some (.lst ((List.range i).map fun j => V.ref (wa j)))
  w : ∀ j, j < i → H' (wa j) = some (.lst (List.replicate 16 [V.int 0]).flatten) ∧ H1 (wa j) = none ∧ wa j ≠ D
  inj : ∀ j k, j < i → k < i → wa j = wa k → j = k
  keep : ∀ b o, H1 b = some o → H' b = some o
theorem RowsAt.more {H1 H' : Hp} {D l q : Addr} {i : Nat} {wa : Nat → Addr} (R : RowsAt H1 H' D i wa) (hD : H1 D = none) (hl : H' l = none) (hq : upd H' l (.lst [.int 0]) q = none) :
    ∃ acc, upd (upd H' l (.lst [.int 0])) q (.lst (List.replicate 16 [V.int 0]).flatten) D = some (.lst acc) ∧ acc.length = i ∧
      ∃ wa', RowsAt H1 (upd (upd (upd H' l (.lst [.int 0])) q (.lst (List.replicate 16 [V.int 0]).flatten)) D (.lst (acc ++ [.ref q]))) D (i + 1) wa' := by
  obtain ⟨q1, q2⟩ := upd_none hq
  have d1 : D ≠ l := ne_of_none R.d hl
  have d2 : D ≠ q := ne_of_none R.d q2
  refine ⟨_, by rw [upd_ne d2, upd_ne d1]; exact R.d, by simp, fun j => if j = i then q else wa j, ?_, fun j hj => ?_, fun j k hj hk e => ?_, fun b o hb => ?_⟩
  · rw [upd_same, List.range_succ, List.map_append]
    refine congrArg (fun z => some (HO.lst z)) (congr (congrArg _ ?_) ?_)
    · refine List.map_congr_left fun j hj => ?_
      rw [if_neg (by have := List.mem_range.mp hj; omega)]
    · show [V.ref q] = [V.ref (if i = i then q else wa i)]
      rw [if_pos rfl]
  · show upd _ _ _ (if j = i then q else wa j) = _ ∧ H1 (if j = i then q else wa j) = _ ∧ (if j = i then q else wa j) ≠ D
    by_cases c : j = i
    · rw [if_pos c, upd_ne (Ne.symm d2), upd_same]
      refine ⟨rfl, ?_, Ne.symm d2⟩
      cases z : H1 q with
      | none => rfl
      | some o =>
        rw [R.keep q o z] at q2
        cases q2
    · rw [if_neg c]
      obtain ⟨a, b, e⟩ := R.w j (by omega)
      exact ⟨by rw [upd_ne e, upd_ne (ne_of_none a q2), upd_ne (ne_of_none a hl)]; exact a, b, e⟩
  · have e : (if j = i then q else wa j) = (if k = i then q else wa k) := e
    by_cases c : j = i
    · by_cases c2 : k = i
      · omega
      · rw [if_pos c, if_neg c2] at e
        exact absurd e.symm (ne_of_none (R.w k (by omega)).1 q2)
    · by_cases c2 : k = i
      · rw [if_neg c, if_pos c2] at e
        exact absurd e (ne_of_none (R.w j (by omega)).1 q2)
      · rw [if_neg c, if_neg c2] at e
        exact R.inj j k (by omega) (by omega) e
  · have h := R.keep b o hb
    rw [upd_ne (ne_of_none hb hD), upd_ne (ne_of_none h q2), upd_ne (ne_of_none h hl)]
    exact h
def t_Registers_rest (K : PySem.W.Frag) : TS :=
  tSeq (sFld K (tVar 0) (tLc (iRng1 (tCons (tC (.int 8)) tNil)) (gName 1) tYes (tOp rRep (tLst (tCons (tC (.int 0)) tNil)) (tC (.int 16))) [1]) "windows")
    (tSeq (sFld K (tVar 0) (tC (.int 0)) "window")
    (sFld K (tVar 0) (tC (.int 2)) "mask"))
theorem regs_put (D s : Addr) : putF "mask" (.int 2) (putF "window" (.int 0) (putF "windows" (.ref D) [("shared", V.ref s)])) = ([("shared", .ref s), ("windows", .ref D), ("window", .int 0), ("mask", .int 2)] : List (Str × V)) := by
  have e1 : putF "windows" (.ref D) [("shared", V.ref s)] = ([("shared", .ref s), ("windows", .ref D)] : List (Str × V)) := put_past (by decide +kernel)
  have e2 : putF "window" (.int 0) [("shared", V.ref s), ("windows", V.ref D)] = ([("shared", .ref s), ("windows", .ref D), ("window", .int 0)] : List (Str × V)) := (put_past (by decide +kernel)).trans (congrArg _ (put_past (by decide +kernel)))
  have e3 : putF "mask" (.int 2) [("shared", V.ref s), ("windows", V.ref D), ("window", .int 0)] = ([("shared", .ref s), ("windows", .ref D), ("window", .int 0), ("mask", .int 2)] : List (Str × V)) :=
    (put_past (by decide +kernel)).trans (congrArg _ ((put_past (by decide +kernel)).trans (congrArg _ (put_past (by decide +kernel)))))
  rw [e1, e2, e3]
theorem regs_rest (T : Txt K mg) {H H1 : Hp} {p dx s : Addr} {Q : VK} (hp2 : H1 p = some (.ins (He.ga K "Registers") dx [("shared", .ref s)])) (hs2 : H1 s = some (.lst (List.replicate 8 [V.int 0]).flatten))
    (k1 : ∀ b o, H b = some o → b ≠ p → H1 b = some o) (s2 : H s = none) (ps : p ≠ s) (hQ : ∀ H' A, RegsNew K H H' p dx A → Q .non H') :
    t_Registers_rest K { nx := fun _ H' => Q .non H', rt := Q } [some (.ref p), none] H1 := by
  have n1 : ∀ b, H1 b = none → H b = none := fun b hb => by
    cases z : H b with
    | none => rfl
    | some o =>
      by_cases e : b = p
      · rw [e, hp2] at hb
        cases hb
      · rw [k1 b o z e] at hb
        cases hb
  refine ⟨8, rfl, (by decide), (by decide), fun D hD => ?_⟩
  refine lc_range (lo := 0) (n := 8) (fun i H' => ∃ wa, RowsAt H1 H' D i wa) ⟨fun _ => 0, upd_same, fun j hj => absurd hj (Nat.not_lt_zero _), fun j k hj => absurd hj (Nat.not_lt_zero _), fun b o hb => ?_⟩ ?_ ?_
  · rw [upd_ne (ne_of_none hb hD)]
    exact hb
  · rintro i H' hi ⟨wa, RA⟩
    refine ⟨rfl, (by show 1 ≤ sizeLine; decide), fun l2 hl2 => ⟨l2, _, _, rfl, rfl, upd_same, (by decide), (by decide), (by show 1 * 16 ≤ sizeLine; decide), fun q hq => ?_⟩⟩
    obtain ⟨acc, a1, a2, a3⟩ := RA.more hD hl2 hq
    exact ⟨acc, a1, (by rw [a2]; show i < 16777216; omega), a3⟩
  · rintro H2 ⟨wa, RA⟩
    have hp3 := RA.keep _ _ hp2
    have hs3 := RA.keep _ _ hs2
    have pD : p ≠ D := ne_of_none hp2 hD
    refine ⟨_, rfl, p, _, dx, _, rfl, hp3, T.cl_Registers, T.n_Registers_windows, (by show 1 < 1000; decide), ?_⟩
    have e2 : (putF "windows" (.ref D) [("shared", V.ref s)]).length < 1000 := by
      rw [put_past (by decide +kernel)]
      show 2 < 1000
      decide
    have e3 : (putF "window" (.int 0) (putF "windows" (.ref D) [("shared", V.ref s)])).length < 1000 := by
      rw [put_past (by decide +kernel), put_nil, put_past (by decide +kernel), put_past (by decide +kernel)]
      show 3 < 1000
      decide
    refine ⟨_, rfl, p, _, dx, _, rfl, upd_same, T.cl_Registers, T.n_Registers_window, e2, ?_⟩
    refine ⟨_, rfl, p, _, dx, _, rfl, upd_same, T.cl_Registers, T.n_Registers_mask, e3, ?_⟩
    refine hQ _ ⟨0, 0, p, dx, s, D, 0, wa⟩ ⟨Eq.trans upd_same (congrArg (fun z => some (HO.ins (He.ga K "Registers") dx z)) (regs_put D s)), ?_, ?_, fun i hi => ?_, fun i hi => ⟨?_, (RA.w i hi).2.2⟩, RA.inj, ?_, fun b o hb hne => ?_, s2, n1 _ hD, fun i hi => n1 _ (RA.w i hi).2.1⟩
    · rw [upd_ne (Ne.symm ps), upd_ne (Ne.symm ps), upd_ne (Ne.symm ps), sh0]
      exact hs3
    · rw [upd_ne (Ne.symm pD), upd_ne (Ne.symm pD), upd_ne (Ne.symm pD)]
      exact RA.d
    · have e : wa i ≠ p := fun z => by
        have := (RA.w i hi).2.1
        rw [z, hp2] at this
        cases this
      rw [upd_ne e, upd_ne e, upd_ne e, win0]
      exact (RA.w i hi).1
    · intro z
      have := (RA.w i hi).2.1
      have z : wa i = s := z
      rw [z, hs2] at this
      cases this
    · exact ne_of_none hs2 hD
    · rw [upd_ne hne, upd_ne hne, upd_ne hne]
      exact RA.keep b o (k1 b o hb hne)
theorem pure_Registers_init (T : Txt K mg) : ∀ vs H Q E, sp_Registers_init K vs H Q E → t_Registers_init K E { nx := fun _ H' => Q .non H', rt := Q } (start ["self", "window"] vs) H := by
  rintro vs H Q E ⟨p, dx, rfl, hp, hQ⟩
  refine ⟨(by show 1 ≤ sizeLine; decide), fun l hl => ⟨l, _, _, rfl, rfl, upd_same, (by decide), (by decide), (by show 1 * 8 ≤ sizeLine; decide), fun s hs => ?_⟩⟩
  obtain ⟨s1, s2⟩ := upd_none hs
  have pl : p ≠ l := ne_of_none hp hl
  have ps : p ≠ s := ne_of_none hp s2
  have hp1 : upd (upd H l (.lst [.int 0])) s (.lst (List.replicate 8 [V.int 0]).flatten) p = some (.ins (He.ga K "Registers") dx []) := by
    rw [upd_ne ps, upd_ne pl]
    exact hp
  refine ⟨_, rfl, p, _, dx, _, rfl, hp1, T.cl_Registers, T.n_Registers_shared, (by show 0 < 1000; decide), ?_⟩
  refine regs_rest T (H := H) upd_same (by rw [upd_ne (Ne.symm ps), upd_same] <;> rfl) (fun b o hb hne => ?_) s2 ps hQ
  rw [upd_ne hne, upd_ne (ne_of_none hb s2), upd_ne (ne_of_none hb hl)]
  exact hb
end
end Wd
set_option Elab.async false
set_option linter.all false
set_option maxRecDepth 100000
set_option maxHeartbeats 4000000
namespace Wd
open PySem PySem.Spec PyProof.Rows L2
theorem put_new {f : Str} {v : V} : ∀ {fs : List (Str × V)} {ks : List Str}, fs.map Prod.fst = ks → ks.contains f = false → putF f v fs = fs ++ [(f, v)]
  | [], _, _, _ => rfl
  | (g, x) :: r, _, rfl, h => by
    have h : (f == g || (r.map Prod.fst).contains f) = false := h
    rw [Bool.or_eq_false_iff] at h
    rw [put_past (fun z => by
      have h1 := h.1
      rw [z] at h1
      simp at h1), put_new rfl h.2] <;> rfl
section
variable {K : PySem.W.Frag} {mg : Str → Option Value}
structure RegsIn (K : PySem.W.Frag) (H : Hp) (p : Addr) (A : Ad) : Prop where
  r : H A.r = some (.ins (He.ga K "Registers") A.dr (regF A start0))
  sh : H A.sh = some (.lst (shL start0))
  ws : H A.ws = some (.lst (wsL A))
  w : ∀ i, i < 8 → H (A.wa i) = some (.lst (winL start0 i))
  d1 : ∀ i, i < 8 → A.wa i ≠ A.sh ∧ A.wa i ≠ A.ws
  d2 : ∀ i j, i < 8 → j < 8 → A.wa i = A.wa j → i = j
  d3 : A.sh ≠ A.ws
  p1 : A.r ≠ p
  p2 : A.sh ≠ p
  p3 : A.ws ≠ p
  p4 : ∀ i, i < 8 → A.wa i ≠ p
theorem RegsIn.same {H H' : Hp} {p : Addr} {A : Ad} (R : RegsIn K H p A) (e : Same H H') : RegsIn K H' p A :=
  ⟨e _ _ R.r, e _ _ R.sh, e _ _ R.ws, fun i hi => e _ _ (R.w i hi), R.d1, R.d2, R.d3, R.p1, R.p2, R.p3, R.p4⟩
theorem RegsIn.upd {H : Hp} {p : Addr} {A : Ad} {o : HO} (R : RegsIn K H p A) : RegsIn K (L2.upd H p o) p A :=
  ⟨(upd_ne R.p1).trans R.r, (upd_ne R.p2).trans R.sh, (upd_ne R.p3).trans R.ws, fun i hi => (upd_ne (R.p4 i hi)).trans (R.w i hi), R.d1, R.d2, R.d3, R.p1, R.p2, R.p3, R.p4⟩
theorem wf0 : WF start0 := ⟨fun _ => (show 0 < Ra24.W by decide), fun _ => (show 0 < Ra24.W by decide), by decide, by decide, by decide, by decide, fun _ => by show 0 < 256; decide⟩
theorem RegsIn.mach {H : Hp} {p dx q c : Addr} {A : Ad} {fs : List (Str × V)} (R : RegsIn K H p A) (hp : H p = some (.ins (He.ga K "Machine") dx fs)) (hc : IccAt K H c start0.icc) (pc : c ≠ p) (hq : H q = none) :
    Mach K (L2.upd (L2.upd H q (.lst (memL start0.mem))) p (.ins (He.ga K "Machine") dx (macF { A with m := p, dm := dx, mem := q } c start0))) { A with m := p, dm := dx, mem := q } start0 := by
  have R2 := (R.same (Same.new (o := .lst (memL start0.mem)) hq)).upd (o := .ins (He.ga K "Machine") dx (macF { A with m := p, dm := dx, mem := q } c start0))
  have qp : q ≠ p := Ne.symm (ne_of_none hp hq)
  obtain ⟨dc, hc⟩ := hc
  exact ⟨⟨c, upd_same, dc, by rw [upd_ne pc, upd_ne (ne_of_none hc hq)]; exact hc⟩, R2.r, R2.sh, R2.ws, R2.w, by rw [upd_ne qp, upd_same], fun i hi => ⟨(R.d1 i hi).1, ne_of_none (R.w i hi) hq, (R.d1 i hi).2⟩, R.d2, ⟨ne_of_none R.sh hq, R.d3, Ne.symm (ne_of_none R.ws hq)⟩, wf0⟩
/-- what of a new machine's is new -/
structure NewA (H : Hp) (A : Ad) : Prop where
  r : H A.r = none
  sh : H A.sh = none
  w : ∀ i, i < 8 → H (A.wa i) = none
theorem init_rest2 (T : Txt K mg) {H H4 : Hp} {p dx c x : Addr} {A : Ad} {Q : VK} (hp : H4 p = some (.ins (He.ga K "Machine") dx [("registers", .ref A.r), ("y", .int 0), ("conditions", .ref c)])) (R : RegsIn K H4 p A) (hc : IccAt K H4 c start0.icc) (pc : c ≠ p)
    (k1 : ∀ b o, H b = some o → b ≠ p → H4 b = some o) (n : NewA H A) (hQ : ∀ H' A, Mach K H' A start0 → A.m = p → (∀ b o, H b = some o → b ≠ p → H' b = some o) → (∀ b, A.own b → b = p ∨ H b = none) → Q .non H') :
    (tSeq (sFld K (tVar 0) (tC (.int 0)) "place")
    (tSeq (sFld K (tVar 0) (tC (.int 4)) "after")
    (sFld K (tVar 0) (tOp rRep (tLst (tCons (tC (.int 0)) tNil)) (tC (.int 65536))) "memory"))) { nx := fun _ H' => Q .non H', rt := Q } [some (.ref p)] H4 := by
  have e1 : putF "place" (.int 0) [("registers", V.ref A.r), ("y", V.int 0), ("conditions", V.ref c)] = ([("registers", .ref A.r), ("y", .int 0), ("conditions", .ref c), ("place", .int 0)] : List (Str × V)) := put_new (ks := ["registers", "y", "conditions"]) rfl (by decide +kernel)
  have e2 : putF "after" (.int 4) [("registers", V.ref A.r), ("y", V.int 0), ("conditions", V.ref c), ("place", V.int 0)] = ([("registers", .ref A.r), ("y", .int 0), ("conditions", .ref c), ("place", .int 0), ("after", .int 4)] : List (Str × V)) := put_new (ks := ["registers", "y", "conditions", "place"]) rfl (by decide +kernel)
  refine ⟨_, rfl, p, _, dx, _, rfl, hp, T.cl_Machine, T.n_Machine_place, (by show 3 < 1000; decide), ?_⟩
  refine ⟨_, rfl, p, _, dx, _, rfl, upd_same, T.cl_Machine, T.n_Machine_after, (by rw [e1]; show 4 < 1000; decide), ?_⟩
  rw [e1, e2]
  refine ⟨(by show 1 ≤ sizeLine; decide), fun l hl => ⟨l, _, _, rfl, rfl, upd_same, (by decide), (by decide), (by show 1 * 65536 ≤ sizeLine; decide), fun q hq => ?_⟩⟩
  obtain ⟨q1, q2⟩ := upd_none hq
  have pl : p ≠ l := ne_of_none upd_same hl
  have pq : p ≠ q := ne_of_none upd_same q2
  obtain ⟨l1, l2⟩ := upd_none (upd_none hl).2
  obtain ⟨q3, q4⟩ := upd_none (upd_none q2).2
  refine ⟨_, rfl, p, _, dx, _, rfl, (by rw [upd_ne pq, upd_ne pl, upd_same]), T.cl_Machine, T.n_Machine_memory, (by show 5 < 1000; decide), ?_⟩
  have R2 := ((R.upd (o := .ins (He.ga K "Machine") dx [("registers", V.ref A.r), ("y", V.int 0), ("conditions", V.ref c), ("place", V.int 0)])).upd (o := .ins (He.ga K "Machine") dx [("registers", V.ref A.r), ("y", V.int 0), ("conditions", V.ref c), ("place", V.int 0), ("after", V.int 4)])).same (Same.new (o := .lst [.int 0]) hl)
  obtain ⟨dc, hc⟩ := hc
  have M := R2.mach (dx := dx) (q := q) (c := c) (by rw [upd_ne pl, upd_same]) ⟨dc, by rw [upd_ne (ne_of_none hc l2), upd_ne pc, upd_ne pc]; exact hc⟩ pc hq
  have e3 : putF "memory" (.ref q) [("registers", V.ref A.r), ("y", V.int 0), ("conditions", V.ref c), ("place", V.int 0), ("after", V.int 4)] = macF { A with m := p, dm := dx, mem := q } c start0 := put_new (ks := ["registers", "y", "conditions", "place", "after"]) rfl (by decide +kernel)
  rw [e3, show (List.replicate (Int.toNat 65536) [V.int 0]).flatten = memL start0.mem from mem0.symm]
  refine hQ _ _ M rfl (fun b o hb hne => ?_) fun b hb => ?_
  · have z := k1 b o hb hne
    rw [upd_ne hne, upd_ne (ne_of_none z q4), upd_ne (ne_of_none z l2), upd_ne hne, upd_ne hne]
    exact z
  · have nn : ∀ b, H4 b = none → b ≠ p → H b = none := fun b hb hne => by
      cases z : H b with
      | none => rfl
      | some o =>
        rw [k1 b o z hne] at hb
        cases hb
    rcases hb with hb | hb | hb | hb | ⟨i, hi, hb⟩
    · exact .inl hb
    · exact .inr (hb ▸ n.r)
    · exact .inr (hb ▸ n.sh)
    · exact .inr (nn b (hb ▸ q4) (hb ▸ Ne.symm pq))
    · exact .inr (hb ▸ n.w i hi)
theorem init_rest1 (T : Txt K mg) {H H3 : Hp} {p dx : Addr} {A : Ad} {Q : VK} (hp : H3 p = some (.ins (He.ga K "Machine") dx [("registers", .ref A.r), ("y", .int 0)])) (R : RegsIn K H3 p A)
    (k1 : ∀ b o, H b = some o → b ≠ p → H3 b = some o) (n : NewA H A) (hQ : ∀ H' A, Mach K H' A start0 → A.m = p → (∀ b o, H b = some o → b ≠ p → H' b = some o) → (∀ b, A.own b → b = p ∨ H b = none) → Q .non H') :
    (tSeq (sFld K (tVar 0) (tMake (He.ga K "Conditions") (sp_Conditions_init K) [] E0 (tCons (tC (.bl false)) (tCons (tC (.bl false)) (tCons (tC (.bl false)) (tCons (tC (.bl false)) tNil))))) "conditions")
    (tSeq (sFld K (tVar 0) (tC (.int 0)) "place")
    (tSeq (sFld K (tVar 0) (tC (.int 4)) "after")
    (sFld K (tVar 0) (tOp rRep (tLst (tCons (tC (.int 0)) tNil)) (tC (.int 65536))) "memory")))) { nx := fun _ H' => Q .non H', rt := Q } [some (.ref p)] H3 := by
  intro x0 dx0 nx0 nd0 ne0
  refine mk_cond (K := K) (H := H3) (i := start0.icc) (Q := fun y H' => (tSeq (sFld K (tVar 0) (tC y) "conditions")
    (tSeq (sFld K (tVar 0) (tC (.int 0)) "place")
    (tSeq (sFld K (tVar 0) (tC (.int 4)) "after")
    (sFld K (tVar 0) (tOp rRep (tLst (tCons (tC (.int 0)) tNil)) (tC (.int 65536))) "memory")))) { nx := fun _ H' => Q .non H', rt := Q } [some (.ref p)] H') (fun H4 c sm hc => ?_) x0 dx0 nx0 nd0 ne0
  have hp4 := sm _ _ hp
  have pc : c ≠ p := by
    obtain ⟨dc, hc'⟩ := hc
    exact fun z => by
      rw [z, hp4] at hc'
      have := (HO.ins.inj (Option.some.inj hc')).2.2
      exact absurd (Prod.mk.inj (List.cons.inj this).1).1 (by decide +kernel)
  refine ⟨_, rfl, p, _, dx, _, rfl, hp4, T.cl_Machine, T.n_Machine_conditions, (by show 2 < 1000; decide), ?_⟩
  have e1 : putF "conditions" (.ref c) [("registers", V.ref A.r), ("y", V.int 0)] = ([("registers", .ref A.r), ("y", .int 0), ("conditions", .ref c)] : List (Str × V)) := put_new (ks := ["registers", "y"]) rfl (by decide +kernel)
  rw [e1]
  obtain ⟨dc, hc⟩ := hc
  refine init_rest2 T (H := H) (A := A) (c := c) (x := c) upd_same (R.same sm).upd ⟨dc, (upd_ne pc).trans hc⟩ pc (fun b o hb hne => ?_) n hQ
  rw [upd_ne hne]
  exact sm _ _ (k1 b o hb hne)
theorem pure_Machine_init (T : Txt K mg) : ∀ vs H Q E, sp_Machine_init K vs H Q E → t_Machine_init K E { nx := fun _ H' => Q .non H', rt := Q } (start ["self"] vs) H := by
  rintro vs H Q E ⟨p, dx, rfl, hp, hQ⟩
  intro x dr hx hdr hne
  refine ⟨x, dr, rfl, upd_same, fun H1 A RN => ⟨rfl, ?_⟩⟩
  have k1 : Same H H1 := fun b o hb => RN.keep b o (by rw [upd_ne (ne_of_none hb hx), upd_ne (ne_of_none hb hdr)]; exact hb) (ne_of_none hb hx)
  have nsh : H A.sh = none := (upd_none (upd_none RN.nsh).2).2
  have nws : H A.ws = none := (upd_none (upd_none RN.nws).2).2
  have nw : ∀ i, i < 8 → H (A.wa i) = none := fun i hi => (upd_none (upd_none (RN.nw i hi)).2).2
  have R1 : RegsIn K H1 p { A with r := x, dr := dr } := ⟨RN.r, RN.sh, RN.ws, RN.w, RN.d1, RN.d2, RN.d3, Ne.symm (ne_of_none hp hx), Ne.symm (ne_of_none hp nsh), Ne.symm (ne_of_none hp nws), fun i hi => Ne.symm (ne_of_none hp (nw i hi))⟩
  have e1 : putF "y" (.int 0) [("registers", V.ref x)] = ([("registers", .ref x), ("y", .int 0)] : List (Str × V)) := put_new (ks := ["registers"]) rfl (by decide +kernel)
  refine ⟨_, rfl, p, _, dx, _, rfl, k1 _ _ hp, T.cl_Machine, T.n_Machine_registers, (by show 0 < 1000; decide), ?_⟩
  refine ⟨_, rfl, p, _, dx, _, rfl, upd_same, T.cl_Machine, T.n_Machine_y, (by show 1 < 1000; decide), ?_⟩
  refine init_rest1 T (H := H) (A := { A with r := x, dr := dr }) (Eq.trans upd_same (congrArg (fun z => some (HO.ins (He.ga K "Machine") dx z)) e1)) R1.upd.upd (fun b o hb hne => ?_) ⟨hx, nsh, nw⟩ hQ
  rw [upd_ne hne, upd_ne hne]
  exact k1 _ _ hb
theorem pad_row (row : List Nat) (h : row.length ≤ 65536) : (natsV row) ++ (List.replicate (65536 - row.length) [V.int 0]).flatten = memL fun q => row.getD q 0 := by
  unfold memL natsV
  apply List.ext_getElem?
  intro i
  rw [List.flatten_replicate_singleton]
  by_cases c : i < row.length
  · rw [List.getElem?_append_left (by simpa using c), tab_get _ (by omega), List.getElem?_map]
    simp [c]
  · rw [List.getElem?_append_right (by simpa using c), List.getElem?_replicate, List.length_map]
    by_cases c2 : i < 65536
    · rw [if_pos (by omega), tab_get _ c2]
      simp [List.getElem?_eq_none (show row.length ≤ i by omega)]
    · rw [if_neg (by omega), List.getElem?_eq_none (by rw [tab_len]; omega)]
theorem pure_Machine_set_memory (T : Txt K mg) : ∀ vs H Q E, sp_Machine_set_memory K vs H Q E → t_Machine_set_memory K E { nx := fun _ H' => Q .non H', rt := Q } (start ["self", "row"] vs) H := by
  rintro vs H Q E ⟨A, s, r, row, rfl, M, hr, ⟨hlen, hby⟩, hQ⟩
  obtain ⟨c, hm, dc, hc⟩ := M.m
  refine ⟨_, rfl, (by show 1 ≤ sizeLine; decide), fun l hl => ?_⟩
  have hr1 : upd H l (.lst [.int 0]) r = some (.lst (row.map fun (n : Nat) => V.int (n : Int))) := by
    rw [upd_ne (ne_of_none hr hl)]
    exact hr
  have hk : (65536 : Int) - ((row.map fun (n : Nat) => V.int (n : Int)).length : Int) = ((65536 - row.length : Nat) : Int) := by
    rw [List.length_map]
    omega
  refine ⟨_, rfl, r, _, rfl, Or.inl (SqL.of hr1), _, _, rfl, rfl, l, _, _, rfl, rfl, upd_same, (by rw [hk]; omega), (by rw [hk]; omega), ?_, fun z hz => ?_⟩
  · rw [hk]
    show 1 * (65536 - row.length) ≤ 16777216
    omega
  obtain ⟨z1, z2⟩ := upd_none hz
  refine ⟨r, z, _, _, rfl, rfl, (by rw [upd_ne (ne_of_none hr1 hz)]; exact hr1), upd_same, ?_, fun q hq => ?_⟩
  · rw [hk, List.length_map, List.flatten_replicate_singleton, List.length_replicate]
    show row.length + (65536 - row.length) ≤ 16777216
    omega
  obtain ⟨q1, q2⟩ := upd_none hq
  obtain ⟨q3, q4⟩ := upd_none q2
  have s1 : Same H (upd (upd (upd H l (.lst [.int 0])) z (.lst (List.replicate (Int.toNat ((65536 : Int) - ((row.map fun (n : Nat) => V.int (n : Int)).length : Int))) [V.int 0]).flatten)) q
      (.lst ((row.map fun (n : Nat) => V.int (n : Int)) ++ (List.replicate (Int.toNat ((65536 : Int) - ((row.map fun (n : Nat) => V.int (n : Int)).length : Int))) [V.int 0]).flatten))) :=
    fun b o e => Same.new hq b o (Same.new hz b o (Same.new hl b o e))
  have M1 := M.mono s1
  have mq : A.m ≠ q := ne_of_none hm q4
  refine ⟨_, rfl, A.m, _, A.dm, _, rfl, s1 _ _ hm, T.cl_Machine, T.n_Machine_memory, (by show 6 < 1000; decide), ?_⟩
  rw [mf_put_memory]
  have eL : (row.map fun (n : Nat) => V.int (n : Int)) ++ (List.replicate (Int.toNat ((65536 : Int) - ((row.map fun (n : Nat) => V.int (n : Int)).length : Int))) [V.int 0]).flatten = memL fun q => row.getD q 0 := by
    rw [hk]
    exact pad_row row (by omega)
  have ne1 : ∀ b xs, H b = some (.lst xs) → b ≠ A.m := fun b xs hb => Ne.symm (ne_il hm hb)
  have W := M.ok
  have cm : c ≠ A.m := ne_ins hc hm ne_ic_mac
  have rm : A.r ≠ A.m := Ne.symm (ne_ins hm M.r ne_mac_reg)
  have qm : q ≠ A.m := Ne.symm mq
  refine hQ _ q q4 ⟨⟨c, upd_same, dc, ?_⟩, ?_, ?_, ?_, fun i hi => ?_, ?_, fun i hi => ⟨(M.d1 i hi).1, ne_of_none (M.w i hi) q4, (M.d1 i hi).2.2⟩, M.d2, ⟨ne_of_none M.sh q4, M.d3.2.1, Ne.symm (ne_of_none M.ws q4)⟩, ⟨W.g, W.w, W.y, W.pc, W.npc, W.cwp, fun p => ?_⟩⟩ fun b o hb hne => ?_
  · rw [upd_ne cm]
    exact s1 _ _ hc
  · rw [upd_ne rm]
    exact s1 _ _ M.r
  · rw [upd_ne (ne1 _ _ M.sh)]
    exact s1 _ _ M.sh
  · rw [upd_ne (ne1 _ _ M.ws)]
    exact s1 _ _ M.ws
  · rw [upd_ne (ne1 _ _ (M.w i hi))]
    exact s1 _ _ (M.w i hi)
  · rw [upd_ne qm, upd_same]
    exact congrArg (fun x => some (HO.lst x)) eL
  · show row.getD p 0 < 256
    rw [List.getD_eq_getElem?_getD]
    cases h : row[p]? with
    | none => decide
    | some x => exact hby x (List.mem_of_getElem? h)
  · rw [upd_ne hne]
    exact s1 _ _ hb
end
end Wd
set_option Elab.async false
set_option linter.all false
set_option maxRecDepth 100000
set_option maxHeartbeats 4000000
namespace Wd
open PySem PySem.Spec PyProof.Rows L2
section
variable {K : PySem.W.Frag} {mg : Str → Option Value}
theorem setM_lt {s : Ra24.M} {k x : Nat} (h : k < 32) : setM s k x = Ra24.set s k x := if_pos h
theorem setM_32 {s : Ra24.M} {x : Nat} : setM s 32 x = { s with y := x } := rfl
theorem setM_33 {s : Ra24.M} {x : Nat} : setM s 33 x = { s with icc := ⟨x.testBit 3, x.testBit 2, x.testBit 1, x.testBit 0⟩ } := rfl
theorem setM_34 {s : Ra24.M} {x : Nat} : setM s 34 x = { s with pc := x / 4 * 4 } := rfl
theorem setM_35 {s : Ra24.M} {x : Nat} : setM s 35 x = { s with npc := x / 4 * 4 } := rfl
theorem setM_36 {s : Ra24.M} {x : Nat} : setM s 36 x = { s with cwp := x % 8 } := rfl
theorem setM_37 {s : Ra24.M} {x : Nat} : setM s 37 x = { s with wim := x % 256 } := rfl
theorem iteT {x y : Int} {A B : Prop} (h : x = y) (a : A) : if decide (V.int x = V.int y) = true then A else B := iteEq (fun _ => a) fun z => absurd h z
theorem iteN {x y : Int} {A B : Prop} (h : ¬ x = y) (b : B) : if decide (V.int x = V.int y) = true then A else B := iteEq (fun z => absurd z h) fun _ => b
theorem pure_set_special (T : Txt K mg) : ∀ vs H Q E, sp_set_special K vs H Q E → t_set_special K E { nx := fun _ H' => Q .non H', rt := Q } (start ["machine", "which", "value"] vs) H := by
  rintro vs H Q E ⟨A, s, k, x, rfl, M, hk, hx, hQ⟩
  obtain ⟨c, hm, hc⟩ := M.m
  have W := M.ok
  have hx2 : x < 4294967296 := hx
  refine ⟨_, rfl, rfl, _, rfl, iteEq (fun h => ?_) fun h0 => ?_⟩
  · obtain rfl : k = 32 := by omega
    exact ⟨_, rfl, _, _, _, rfl, hm, mf_none (by decide +kernel), _, rfl, A, s, x, rfl, M, hx, hQ⟩
  refine ⟨_, rfl, rfl, _, rfl, iteEq (fun h => ?_) fun h1 => ?_⟩
  · obtain rfl : k = 33 := by omega
    refine ⟨_, rfl, _, _, _, rfl, hm, mf_none (by decide +kernel), _, rfl, x, rfl, fun H1 p s1 ic => ?_⟩
    exact ⟨A, s, p, _, rfl, M.mono s1, ic, fun H2 M2 f2 => hQ H2 M2 ((Fr.same s1).trans f2)⟩
  refine ⟨_, rfl, rfl, _, rfl, iteEq (fun h => ?_) fun h2 => ?_⟩
  · obtain rfl : k = 34 := by omega
    refine ⟨_, rfl, _, _, _, rfl, hm, mf_none (by decide +kernel), _, rfl, _, rfl, _, _, rfl, rfl, (show (0 : Int) < 4 by decide), _, _, rfl, rfl, _, rfl, _, _, _, _, _, rfl, hm, T.cl_Machine, T.n_Machine_after, mf_after, A, s, _, _, rfl, M, ?_⟩
    have e1 : (x : Int) - (x : Int) % 4 = ((x / 4 * 4 : Nat) : Int) := by omega
    rw [e1, wrap_nat (by show x / 4 * 4 < 4294967296; omega), wrap_nat W.npc]
    exact hQ
  refine ⟨_, rfl, rfl, _, rfl, iteEq (fun h => ?_) fun h3 => ?_⟩
  · obtain rfl : k = 35 := by omega
    refine ⟨_, rfl, _, _, _, rfl, hm, mf_none (by decide +kernel), _, rfl, _, _, _, _, _, rfl, hm, T.cl_Machine, T.n_Machine_place, mf_place, _, rfl, _, rfl, _, _, rfl, rfl, (show (0 : Int) < 4 by decide), _, _, rfl, rfl, A, s, _, _, rfl, M, ?_⟩
    have e1 : (x : Int) - (x : Int) % 4 = ((x / 4 * 4 : Nat) : Int) := by omega
    rw [e1, wrap_nat W.pc, wrap_nat (by show x / 4 * 4 < 4294967296; omega)]
    exact hQ
  refine ⟨_, rfl, rfl, _, rfl, iteEq (fun h => ?_) fun h4 => ?_⟩
  · obtain rfl : k = 36 := by omega
    refine ⟨_, rfl, _, _, _, _, _, rfl, hm, T.cl_Machine, T.n_Machine_registers, mf_registers, _, _, _, rfl, M.r, rf_none (by decide +kernel), _, rfl, A, s, _, rfl, M, ?_⟩
    rw [show ((x : Int) % 8).toNat = x % 8 by omega]
    exact hQ
  · obtain rfl : k = 37 := by omega
    refine ⟨_, rfl, _, _, _, _, _, rfl, hm, T.cl_Machine, T.n_Machine_registers, mf_registers, _, _, _, rfl, M.r, rf_none (by decide +kernel), _, rfl, _, _, rfl, rfl, (show (0 : Int) < 256 by decide), A, s, x % 256, rfl, M, ?_⟩
    exact hQ
theorem AdN.refl (H : Hp) (A : Ad) : AdN H A A := ⟨rfl, fun _ h => .inl h⟩
theorem Mach.there {H : Hp} {A : Ad} {s : Ra24.M} (M : Mach K H A s) {b : Addr} (h : A.own b) : H b ≠ none := by
  obtain ⟨c, hm, _⟩ := M.m
  rcases h with h | h | h | h | ⟨i, hi, h⟩ <;> rw [h]
  · rw [hm]; simp
  · rw [M.r]; simp
  · rw [M.sh]; simp
  · rw [M.me]; simp
  · rw [M.w i hi]; simp
theorem Mach.none {H H1 : Hp} {A : Ad} {s : Ra24.M} (M : Mach K H1 A s) (f : Fr A H H1) {b : Addr} (h : H1 b = none) : H b = none := by
  cases z : H b with
  | none => rfl
  | some o =>
    rw [f b o z fun w => M.there w h] at h
    cases h
theorem ListOut.new {H H1 : Hp} {A : Ad} {Q : VK} {s' : Ra24.M} {l : List Int} {vs : List V} (hQ : ListOut K H A Q s' l) (M : Mach K H1 A s') (f : Fr A H H1) (e : vs = intsV l) (hl : l.length ≤ 3) :
    vs.length ≤ sizeLine ∧ ∀ p, H1 p = none → Q (.ref p) (upd H1 p (.lst vs)) := by
  subst e
  refine ⟨by unfold intsV; rw [List.length_map]; show l.length ≤ 16777216; omega, fun p hp => hQ _ p A (M.none f hp) upd_same (M.mono (Same.new hp)) (AdN.refl _ _) (f.trans (Fr.same (Same.new hp))) fun b hb => M.none f (upd_none hb).2⟩
theorem iteND {p : Prop} [Decidable p] {A B : Prop} (h1 : ¬ p → A) (h2 : p → B) : if (!decide p) = true then A else B := by
  by_cases h : p
  · rw [decide_eq_true h]
    exact h2 h
  · rw [decide_eq_false h]
    exact h1 h
theorem iteNF {A B : Prop} (h : A) : if (!false) = true then A else B := h
/-- not lo <= k <= hi -/
theorem out_test {k hi : Int} {A B : Prop} {H : Hp} (h1 : k < 0 ∨ hi < k → A) (h2 : 0 ≤ k ∧ k ≤ hi → B) :
    (if decide ((0 : Int) ≤ k) = true then rLeB (.int k) (.int hi) H (fun x H' => ∃ c, x = .bl c ∧ if (!c) = true then A else B) else ∃ c, V.bl false = .bl c ∧ if (!c) = true then A else B) :=
  iteD (fun a => ⟨_, _, rfl, rfl, _, rfl, iteND (fun b => h1 (Or.inr (by omega))) fun b => h2 ⟨a, b⟩⟩) fun a => ⟨_, rfl, iteNF (h1 (Or.inl (by omega)))⟩
theorem pure_set_one (T : Txt K mg) : ∀ vs H Q E, sp_set_one K vs H Q E → t_set_one K E { nx := fun _ H' => Q .non H', rt := Q } (start ["machine", "which", "value"] vs) H := by
  rintro vs H Q E ⟨A, s, k, x, rfl, M, hx, hQ⟩
  obtain ⟨c, hm, hc⟩ := M.m
  refine ⟨_, rfl, _, _, rfl, rfl, _, rfl, out_test (H := H) (fun h => ?_) fun h => ?_⟩
  · rw [if_pos h] at hQ
    exact hQ.new M (Fr.refl _ _) rfl (by decide)
  · rw [if_neg (by omega)] at hQ
    obtain ⟨n, rfl⟩ := Int.eq_ofNat_of_zero_le h.1
    rw [Int.toNat_natCast] at hQ
    refine ⟨_, rfl, _, _, rfl, rfl, _, rfl, iteD (fun h2 => ?_) fun h2 => ?_⟩
    · have hn : n < 32 := by omega
      rw [setM_lt hn] at hQ
      refine ⟨_, rfl, _, _, _, _, _, rfl, hm, T.cl_Machine, T.n_Machine_registers, mf_registers, _, _, _, rfl, M.r, rf_none (by decide +kernel), _, rfl, _, rfl, A, s, n, _, rfl, M, hn, ?_⟩
      rw [wrap_nat hx]
      exact fun H1 M1 f1 => hQ.new M1 f1 rfl (by decide)
    · exact ⟨_, rfl, _, rfl, _, rfl, A, s, n, x, rfl, M, ⟨by omega, by omega⟩, hx, fun H1 M1 f1 => hQ.new M1 f1 rfl (by decide)⟩
theorem pure_get_one (T : Txt K mg) : ∀ vs H Q E, sp_get_one K vs H Q E → t_get_one K E { nx := fun _ H' => Q .non H', rt := Q } (start ["machine", "which", "registers", "others"] vs) H := by
  rintro vs H Q E ⟨A, s, k, rfl, M, hQ⟩
  obtain ⟨c, hm, dc, hc⟩ := M.m
  refine ⟨_, rfl, _, _, rfl, rfl, _, rfl, out_test (H := H) (fun h => ?_) fun h => ?_⟩
  · rw [if_pos h] at hQ
    exact hQ.new M (Fr.refl _ _) rfl (by decide)
  · rw [if_neg (by omega)] at hQ
    obtain ⟨n, rfl⟩ := Int.eq_ofNat_of_zero_le h.1
    rw [Int.toNat_natCast] at hQ
    refine ⟨_, rfl, _, _, rfl, rfl, _, rfl, iteD (fun h2 => ?_) fun h2 => ?_⟩
    · have hn : n < 32 := by omega
      rw [show getM s n = Ra24.reg s n from if_pos hn] at hQ
      refine ⟨_, rfl, _, _, _, _, _, rfl, hm, T.cl_Machine, T.n_Machine_registers, mf_registers, _, _, _, rfl, M.r, rf_none (by decide +kernel), _, rfl, A, s, n, rfl, M, hn, ?_⟩
      exact hQ.new M (Fr.refl _ _) rfl (by decide : (2 : Nat) ≤ 3)
    · refine ⟨_, rfl, _, _, _, _, _, rfl, hm, T.cl_Machine, T.n_Machine_registers, mf_registers, ?_⟩
      refine ⟨_, rfl, _, _, _, _, _, rfl, hm, T.cl_Machine, T.n_Machine_y, mf_y, _, rfl, _, _, _, _, _, rfl, hm, T.cl_Machine, T.n_Machine_conditions, mf_conditions, _, dc, _, rfl, hc, ic_none _ (by decide +kernel), c, s.icc, rfl, ⟨dc, hc⟩, ?_⟩
      refine ⟨_, rfl, _, _, _, _, _, rfl, hm, T.cl_Machine, T.n_Machine_place, mf_place, _, rfl, _, _, _, _, _, rfl, hm, T.cl_Machine, T.n_Machine_after, mf_after, ?_⟩
      refine ⟨_, rfl, _, _, _, _, _, rfl, M.r, T.cl_Registers, T.n_Registers_window, rf_window, _, rfl, _, _, _, _, _, rfl, M.r, T.cl_Registers, T.n_Registers_mask, rf_mask, ?_⟩
      refine ⟨(by show 6 ≤ sizeLine; decide), fun l hl => ?_⟩
      have s1 : Same H (upd H l (.lst [.int (s.y : Int), .int (Ra24.iccByte s.icc : Int), .int (s.pc : Int), .int (s.npc : Int), .int (s.cwp : Int), .int (s.wim : Int)])) := Same.new hl
      refine ⟨_, rfl, _, rfl, _, _, rfl, rfl, _, _, _, .int (getM s n : Int), rfl, rfl, SqL.of upd_same, ?_, ?_⟩
      · obtain rfl | rfl | rfl | rfl | rfl | rfl : n = 32 ∨ n = 33 ∨ n = 34 ∨ n = 35 ∨ n = 36 ∨ n = 37 := by omega
        all_goals rfl
      · exact hQ.new (M.mono s1) (Fr.same s1) rfl (by decide : (2 : Nat) ≤ 3)
end
end Wd
set_option Elab.async false
set_option linter.all false
set_option maxRecDepth 100000
set_option maxHeartbeats 4000000
namespace Wd
open PySem PySem.Spec PyProof.Rows L2
section
variable {K : PySem.W.Frag} {mg : Str → Option Value}
theorem run_zero (i : Nat) (s : Ra24.M) : Ra24.run 0 i s = (s, 0, i) := rfl
theorem run_ok {m i : Nat} {s s2 : Ra24.M} (h : Ra24.step s = .ok s2) : Ra24.run (m + 1) i s = Ra24.run m (i + 1) s2 := by
  show (match Ra24.step s with
    | .error t => (s, t, i)
    | .ok m' => Ra24.run m (i + 1) m') = _
  rw [h]
theorem run_err {m i t : Nat} {s : Ra24.M} (h : Ra24.step s = .error t) : Ra24.run (m + 1) i s = (s, t, i) := by
  show (match Ra24.step s with
    | .error t => (s, t, i)
    | .ok m' => Ra24.run m (i + 1) m') = _
  rw [h]
theorem pure_steps_done (T : Txt K mg) : ∀ vs H Q E, sp_steps_done K vs H Q E → t_steps_done K E { nx := fun _ H' => Q .non H', rt := Q } (start ["machine", "steps", "done", "trap"] vs) H := by
  rintro vs H Q E ⟨A, s, n, rfl, M, hQ⟩
  refine ⟨fun m σ H' => ∃ (i : Nat) (s1 : Ra24.M), i + m = n ∧ σ = [some (.ref A.m), some (.int (n : Int)), some (.int (i : Int)), none] ∧ Mach K H' A s1 ∧ Fr A H H' ∧ Ra24.run n 0 s = Ra24.run m i s1, ⟨n, 0, s, Nat.zero_add n, rfl, M, Fr.refl _ _, rfl⟩, ?_⟩
  rintro m σ H1 ⟨i, s1, him, rfl, M1, f1, e1⟩
  refine ⟨_, rfl, _, rfl, _, _, rfl, rfl, _, rfl, iteD (fun h => ?_) fun h => ?_⟩
  · obtain ⟨m', rfl⟩ : ∃ m', m = m' + 1 := ⟨m - 1, by omega⟩
    refine ⟨fun σ' H' => ∃ (i : Nat) (s1 : Ra24.M), i + m' = n ∧ σ' = [some (.ref A.m), some (.int (n : Int)), some (.int (i : Int)), none] ∧ Mach K H' A s1 ∧ Fr A H H' ∧ Ra24.run n 0 s = Ra24.run m' i s1, fun σ' H' w => ⟨m', Nat.lt_succ_self _, w⟩, ?_⟩
    obtain ⟨c, hm, hc⟩ := M1.m
    refine ⟨_, rfl, _, _, _, rfl, hm, mf_none (by decide +kernel), A, s1, rfl, M1, ?_⟩
    cases hst : Ra24.step s1 with
    | ok s2 =>
      rw [run_ok hst] at e1
      intro H2 M2 f2
      refine ⟨_, rfl, _, _, rfl, rfl, i + 1, s2, by omega, ?_, M2, f1.trans f2, e1⟩
      show [some (V.ref A.m), some (.int (n : Int)), some (.int ((i : Int) + 1)), none] = [some (.ref A.m), some (.int (n : Int)), some (.int ((i + 1 : Nat) : Int)), none]
      rw [show ((i : Int) + 1) = ((i + 1 : Nat) : Int) by omega]
    | error t =>
      rw [run_err hst] at e1
      intro d H2 s2 hd
      refine ⟨true, T.te, fun _ a ha => ?_, fun z => Bool.noConfusion z⟩
      refine ⟨_, rfl, _, rfl, rfl, rfl, d, _, _, rfl, hd, lk_here, ?_⟩
      exact (hQ s1 t i e1).new (M1.mono s2) (f1.trans (Fr.same s2)) rfl (by decide : (2 : Nat) ≤ 3)
  · obtain rfl : m = 0 := by omega
    rw [run_zero] at e1
    refine ⟨_, rfl, ?_⟩
    exact (hQ s1 0 i e1).new M1 f1 rfl (by decide : (2 : Nat) ≤ 3)
/-! ### changes -/
def chgAt (row : List Nat) (f : Nat → Nat) (j : Nat) : List Nat := if f j = row.getD j 0 then [] else [j, f j]
def chgP (row : List Nat) (f : Nat → Nat) (i : Nat) : List Nat := (List.range i).flatMap (chgAt row f)
theorem chgP_succ (row : List Nat) (f : Nat → Nat) (i : Nat) : chgP row f (i + 1) = chgP row f i ++ chgAt row f i := by
  unfold chgP
  rw [List.range_succ, List.flatMap_append, List.flatMap_cons, List.flatMap_nil, List.append_nil]
theorem chgP_len (row : List Nat) (f : Nat → Nat) : ∀ i, (chgP row f i).length ≤ 2 * i
  | 0 => Nat.le_refl 0
  | i + 1 => by
    rw [chgP_succ, List.length_append]
    have h := chgP_len row f i
    have h2 : (chgAt row f i).length ≤ 2 := by
      unfold chgAt
      split
      · decide
      · exact Nat.le_refl 2
    omega
theorem changed_range (row : List Nat) (f : Nat → Nat) : ∀ d k, Ra24Neutral.changed (row.drop k) ((List.range' k d).map f) k = (List.range' k d).flatMap (chgAt row f)
  | 0, k => rfl
  | d + 1, k => by
    rw [List.range'_succ, List.map_cons, List.flatMap_cons]
    show (if f k = (row.drop k).headD 0 then [] else [k, f k]) ++ Ra24Neutral.changed ((row.drop k).drop 1) ((List.range' (k + 1) d).map f) (k + 1) = _
    rw [List.drop_drop, changed_range row f d (k + 1)]
    have e : (row.drop k).headD 0 = row.getD k 0 := by
      rw [List.headD_eq_head?_getD, List.head?_drop, List.getD_eq_getElem?_getD]
    rw [e]
    rfl
theorem changed_is (row : List Nat) (s : Ra24.M) : Ra24Neutral.changed row (memoL s) 0 = chgP row s.mem 65536 := by
  have h := changed_range row s.mem 65536 0
  unfold memoL chgP
  rw [List.range_eq_range']
  exact h
theorem natsV_append (a b : List Nat) : natsV (a ++ b) = natsV a ++ natsV b := List.map_append
theorem natsV_len (a : List Nat) : (natsV a).length = a.length := List.length_map _
theorem pure_changes (T : Txt K mg) : ∀ vs H Q E, sp_changes K vs H Q E → t_changes K E { nx := fun _ H' => Q .non H', rt := Q } (start ["machine", "row", "found", "before", "place", "byte"] vs) H := by
  rintro vs H Q E ⟨A, s, r, row, rfl, M, hr, hlen, hQ⟩
  rw [changed_is] at hQ
  obtain ⟨c, hm, dc, hc⟩ := M.m
  refine ⟨(by show 0 ≤ sizeLine; decide), fun f hf => ?_⟩
  have sf : Same H (upd H f (.lst [])) := Same.new hf
  refine ⟨_, rfl, (by show 1 ≤ sizeLine; decide), fun l hl => ?_⟩
  have sl : Same H (upd (upd H f (.lst [])) l (.lst [.int 0])) := fun b o e => Same.new hl b o (sf b o e)
  have Ml := M.mono sl
  have hk : ((memL s.mem).length : Int) - ((natsV row).length : Int) = ((65536 - row.length : Nat) : Int) := by
    rw [natsV_len]
    unfold memL
    rw [tab_len]
    omega
  refine ⟨_, rfl, _, _, _, _, _, rfl, sl _ _ hm, T.cl_Machine, T.n_Machine_memory, mf_memory, _, _, rfl, Or.inl (SqL.of Ml.me), _, rfl, _, _, rfl, Or.inl (SqL.of (sl _ _ hr)), _, _, rfl, rfl, l, _, _, rfl, rfl, upd_same, (by rw [hk]; omega), (by rw [hk]; omega), ?_, fun z hz => ?_⟩
  · rw [hk]
    show 1 * (65536 - row.length) ≤ 16777216
    omega
  refine ⟨r, z, _, _, rfl, rfl, Same.new hz _ _ (sl _ _ hr), upd_same, ?_, fun q hq => ?_⟩
  · rw [hk, natsV_len, List.flatten_replicate_singleton, List.length_replicate]
    show row.length + (65536 - row.length) ≤ 16777216
    omega
  have hfl : upd (upd H f (.lst [])) l (.lst [.int 0]) f = some (.lst []) := by rw [upd_ne (ne_of_none upd_same hl), upd_same]
  have eL : natsV row ++ (List.replicate (Int.toNat (((memL s.mem).length : Int) - ((natsV row).length : Int))) [V.int 0]).flatten = memL fun q => row.getD q 0 := by
    rw [hk]
    exact pad_row row (by omega)
  rw [eL]
  have sq : Same H (upd (upd (upd (upd H f (.lst [])) l (.lst [.int 0])) z (.lst (List.replicate (Int.toNat (((memL s.mem).length : Int) - ((natsV row).length : Int))) [V.int 0]).flatten)) q (.lst (memL fun q => row.getD q 0))) :=
    fun b o e => Same.new hq b o (Same.new hz b o (sl b o e))
  have hfq : (upd (upd (upd (upd H f (.lst [])) l (.lst [.int 0])) z (.lst (List.replicate (Int.toNat (((memL s.mem).length : Int) - ((natsV row).length : Int))) [V.int 0]).flatten)) q (.lst (memL fun q => row.getD q 0))) f = some (.lst []) :=
    Same.new hq _ _ (Same.new hz _ _ hfl)
  have hqq : (upd (upd (upd (upd H f (.lst [])) l (.lst [.int 0])) z (.lst (List.replicate (Int.toNat (((memL s.mem).length : Int) - ((natsV row).length : Int))) [V.int 0]).flatten)) q (.lst (memL fun q => row.getD q 0))) q = some (.lst (memL fun q => row.getD q 0)) := upd_same
  refine ⟨_, rfl, _, _, _, _, _, rfl, sq _ _ hm, T.cl_Machine, T.n_Machine_memory, mf_memory, _, _, rfl, SqL.of (M.mono sq).me, ?_⟩
  have mfn : A.mem ≠ f := ne_of_none M.me hf
  have hqf : q ≠ f := Ne.symm (ne_of_none (Same.new hz _ _ hfl) hq)
  refine for_it (walk_enum (K := K) (a := A.mem) (xs := memL s.mem)) (fun i σ H' => (∃ v4 v5 : Option V, σ = [some (.ref A.m), some (.ref r), some (.ref f), some (.ref q), v4, v5]) ∧ H' f = some (.lst (natsV (chgP row s.mem i))) ∧ H' q = some (.lst (memL fun q => row.getD q 0)) ∧ Same H H')
    ⟨⟨none, none, rfl⟩, hfq, hqq, sq⟩ (fun i σ H' _ h => SqL.of (h.2.2.2 _ _ M.me)) ?_ ?_
  · rintro i x σ H' H'' hi ⟨⟨v4, v5, rfl⟩, b1, b2, b3⟩ ⟨t, y, z, rfl, ht, rfl, hy, hz⟩
    have hi : i < 65536 := by
      unfold memL at hi
      rw [tab_len] at hi
      exact hi
    have hy : some (V.int (i : Int)) = some y := hy
    have hz : (memL s.mem)[i]? = some z := hz
    have e0 : (memL s.mem)[i]? = some (.int (s.mem i : Int)) := tab_get _ hi
    rw [e0] at hz
    obtain rfl := Option.some.inj hy
    obtain rfl := Option.some.inj hz
    have st : Same H' (upd H' t (.tup [.int (i : Int), .int (s.mem i : Int)])) := Same.new ht
    refine ⟨t, _, rfl, SqT.of upd_same, rfl, _, _, rfl, _, _, rfl, rfl, ?_⟩
    refine ⟨_, rfl, _, rfl, _, rfl, _, _, _, .int (row.getD i 0 : Int), rfl, rfl, SqL.of (st _ _ b2), atI_nat (tab_get (fun q => row.getD q 0) hi), rfl, _, rfl, iteNeq (fun h => ?_) fun h => ?_⟩
    · have hne : ¬ s.mem i = row.getD i 0 := fun w => h (by rw [w])
      refine ⟨_, rfl, Or.inl ⟨rfl, _, SqL.of (st _ _ b1)⟩, _, rfl, _, rfl, (by show 2 ≤ sizeLine; decide), fun l2 hl2 => ?_⟩
      have s2 : Same H' (upd (upd H' t (.tup [.int (i : Int), .int (s.mem i : Int)])) l2 (.lst [.int (i : Int), .int (s.mem i : Int)])) := fun b o e => Same.new hl2 b o (st b o e)
      refine ⟨f, l2, _, _, rfl, rfl, s2 _ _ b1, upd_same, ?_, ⟨_, _, rfl⟩, ?_, ?_, fun b o e => ?_⟩
      · rw [natsV_len]
        have := chgP_len row s.mem i
        show (chgP row s.mem i).length + 2 ≤ 16777216
        omega
      · rw [upd_same, chgP_succ, natsV_append]
        unfold chgAt
        rw [if_neg hne]
        rfl
      · rw [upd_ne hqf]
        exact s2 _ _ b2
      · rw [upd_ne (ne_of_none e hf)]
        exact s2 _ _ (b3 b o e)
    · have he : s.mem i = row.getD i 0 := by omega
      refine ⟨⟨_, _, rfl⟩, ?_, st _ _ b2, fun b o e => st _ _ (b3 b o e)⟩
      rw [chgP_succ]
      unfold chgAt
      rw [if_pos he, List.append_nil]
      exact st _ _ b1
  · rintro σ H' ⟨⟨v4, v5, rfl⟩, b1, b2, b3⟩
    have hn : (memL s.mem).length = 65536 := by unfold memL; rw [tab_len]
    rw [hn] at b1
    exact ⟨_, rfl, hQ H' f hf b1 b3⟩
end
end Wd
set_option Elab.async false
set_option linter.all false
set_option maxRecDepth 100000
set_option maxHeartbeats 4000000
namespace Wd
open PySem PySem.Spec PyProof.Rows L2
section
variable {K : PySem.W.Frag} {mg : Str → Option Value}
theorem intsV_ints (l : List Nat) : intsV (Ra24Neutral.ints l) = natsV l := by
  unfold intsV Ra24Neutral.ints natsV
  rw [List.map_map]
  rfl
theorem pure_run (T : Txt K mg) : ∀ vs H Q E, sp_run K vs H Q E → t_run K E { nx := fun _ H' => Q .non H', rt := Q } (start ["machine", "steps", "row", "found", "other"] vs) H := by
  rintro vs H Q E ⟨A, s, k, r, row, rfl, M, hr, hno, ⟨hlen, hby⟩, hQ⟩
  obtain ⟨c, hm, dc, hc⟩ := M.m
  refine ⟨_, rfl, _, _, rfl, rfl, _, rfl, out_test (H := H) (fun h => ?_) fun h => ?_⟩
  · unfold runOut at hQ
    rw [if_pos h] at hQ
    exact ListOut.new hQ M (Fr.refl _ _) rfl (by decide : (1 : Nat) ≤ 3)
  obtain ⟨n, rfl⟩ := Int.eq_ofNat_of_zero_le h.1
  have eR : runOut s (n : Int) row = ((Ra24.run n 0 { s with mem := fun q => row.getD q 0 }).1, ((Ra24.run n 0 { s with mem := fun q => row.getD q 0 }).2.2 : Int) :: ((Ra24.run n 0 { s with mem := fun q => row.getD q 0 }).2.1 : Int) ::
      Ra24Neutral.counted (Ra24Neutral.ints (Ra24Neutral.changed row (memoL (Ra24.run n 0 { s with mem := fun q => row.getD q 0 }).1) 0))) := by
    unfold runOut
    rw [if_neg (by omega), Int.toNat_natCast]
  rw [eR] at hQ
  refine ⟨_, rfl, _, _, _, rfl, hm, mf_none (by decide +kernel), _, rfl, A, s, r, row, rfl, M, hr, ⟨hlen, hby⟩, fun H1 q hq M1 k1 => ?_⟩
  refine ⟨_, rfl, _, rfl, { A with mem := q }, _, n, rfl, M1, fun s' t d e => ?_⟩
  rw [e] at hQ
  have rm : r ≠ A.m := Ne.symm (ne_il hm hr)
  have hr1 := k1 _ _ hr rm
  have own1 : ∀ b o, H b = some o → ¬ A.own b → ¬ Ad.own { A with mem := q } b := fun b o hb hn w => by
    rcases w with w | w | w | w | w
    · exact hn (.inl w)
    · exact hn (.inr (.inl w))
    · exact hn (.inr (.inr (.inl w)))
    · exact ne_of_none hb hq w
    · exact hn (.inr (.inr (.inr (.inr w))))
  intro H2 p A2 hp hL M2 ad f2 kp
  have hr2 := f2 _ _ hr1 (own1 _ _ hr hno)
  refine ⟨_, rfl, _, rfl, A2, s', r, row, (by rw [ad.1]; rfl), M2, hr2, hlen, fun H3 o ho hoL s3 => ?_⟩
  have hL3 := s3 _ _ hL
  have clen : (Ra24Neutral.changed row (memoL s') 0).length ≤ 131072 := by
    rw [changed_is]
    exact chgP_len row s'.mem 65536
  refine ⟨_, rfl, _, rfl, o, _, rfl, Or.inl (SqL.of hoL), (by show 1 ≤ sizeLine; decide), fun l hl => ?_⟩
  refine ⟨p, l, _, _, rfl, rfl, Same.new hl _ _ hL3, upd_same, (by show 2 + 1 ≤ sizeLine; decide), fun u hu => ?_⟩
  refine ⟨_, rfl, u, o, _, _, rfl, rfl, upd_same, Same.new hu _ _ (Same.new hl _ _ hoL), ?_, fun w hw => ?_⟩
  · rw [natsV_len]
    show 3 + (Ra24Neutral.changed row (memoL s') 0).length ≤ 16777216
    omega
  have sw : Same H2 (upd (upd (upd H3 l (.lst [.int ((natsV (Ra24Neutral.changed row (memoL s') 0)).length : Int)])) u (.lst (intsV [(d : Int), (t : Int)] ++ [.int ((natsV (Ra24Neutral.changed row (memoL s') 0)).length : Int)]))) w
      (.lst ((intsV [(d : Int), (t : Int)] ++ [.int ((natsV (Ra24Neutral.changed row (memoL s') 0)).length : Int)]) ++ natsV (Ra24Neutral.changed row (memoL s') 0)))) :=
    fun b o e => Same.new hw b o (Same.new hu b o (Same.new hl b o (s3 b o e)))
  have n1 : ∀ b, H1 b = none → H b = none := fun b hb => by
    cases z : H b with
    | none => rfl
    | some o =>
      by_cases w : b = A.m
      · obtain ⟨c1, hm1, _⟩ := M1.m
        rw [w, hm1] at hb
        cases hb
      · rw [k1 b o z w] at hb
        cases hb
  have n2 : ∀ b, H2 b = none → H b = none := fun b hb => n1 b (kp b hb)
  have n3 : ∀ b, H3 b = none → H b = none := fun b hb => n2 b (by
    cases z : H2 b with
    | none => rfl
    | some o =>
      rw [s3 b o z] at hb
      cases hb)
  refine hQ _ w A2 (n3 w (upd_none (upd_none hw).2).2) ?_ (M2.mono sw) ⟨ad.1, fun b hb => ?_⟩ (fun b o hb hn => ?_) fun b hb => n3 b (upd_none (upd_none (upd_none hb).2).2).2
  · rw [upd_same]
    refine congrArg (fun x => some (HO.lst x)) ?_
    show V.int (d : Int) :: V.int (t : Int) :: V.int ((natsV (Ra24Neutral.changed row (memoL s') 0)).length : Int) :: natsV (Ra24Neutral.changed row (memoL s') 0) =
      V.int (d : Int) :: V.int (t : Int) :: V.int ((Ra24Neutral.ints (Ra24Neutral.changed row (memoL s') 0)).length : Int) :: intsV (Ra24Neutral.ints (Ra24Neutral.changed row (memoL s') 0))
    rw [intsV_ints, natsV_len]
    unfold Ra24Neutral.ints
    rw [List.length_map]
  · rcases ad.2 b hb with z | z
    · rcases z with z | z | z | z | z
      · exact .inl (.inl z)
      · exact .inl (.inr (.inl z))
      · exact .inl (.inr (.inr (.inl z)))
      · exact .inr (z ▸ hq)
      · exact .inl (.inr (.inr (.inr (.inr z))))
    · exact .inr (n1 b z)
  · exact sw _ _ (f2 _ _ (k1 b o hb fun z => hn (.inl z)) (own1 _ _ hb hn))
theorem pure_answer (T : Txt K mg) : ∀ vs H Q E, sp_answer K vs H Q E → t_answer K E { nx := fun _ H' => Q .non H', rt := Q } (start ["machine", "number", "given", "row"] vs) H := by
  rintro vs H Q E ⟨m, g, r, n, rfl, h⟩
  rcases h with ⟨rfl, k, x, hg, h⟩ | ⟨rfl, k, hg, h⟩ | ⟨rfl, k, hg, h⟩
  · refine ⟨_, rfl, rfl, _, rfl, iteT rfl ?_⟩
    exact ⟨_, rfl, _, rfl, _, _, (0 : Nat), _, rfl, rfl, SqL.of hg, atI_nat rfl, _, rfl, _, _, (1 : Nat), _, rfl, rfl, SqL.of hg, atI_nat rfl, h⟩
  · refine ⟨_, rfl, rfl, _, rfl, iteN (by decide) ?_⟩
    refine ⟨_, rfl, rfl, _, rfl, iteT rfl ?_⟩
    exact ⟨_, rfl, _, rfl, _, _, (0 : Nat), _, rfl, rfl, SqL.of hg, atI_nat rfl, h⟩
  · refine ⟨_, rfl, rfl, _, rfl, iteN (by decide) ?_⟩
    refine ⟨_, rfl, rfl, _, rfl, iteN (by decide) ?_⟩
    exact ⟨_, rfl, _, rfl, _, _, (0 : Nat), _, rfl, rfl, SqL.of hg, atI_nat rfl, _, rfl, h⟩
theorem cut_row (xs : List V) {p n : Nat} (h : p + n ≤ xs.length) : cutV xs (some (p : Int)) (some ((p + n : Nat) : Int)) = (xs.drop p).take n := by
  unfold cutV
  rw [HT.sIx_nat, HT.sIx_nat, Nat.min_eq_left (show p ≤ xs.length by omega), Nat.min_eq_left h, Nat.add_sub_cancel_left]
theorem pure_list_at : ∀ vs H Q E, sp_list_at K vs H Q E → t_list_at K E { nx := fun _ H' => Q .non H', rt := Q } (start ["calls", "number", "at"] vs) H := by
  rintro vs H Q E ⟨c, n, j, xs, rfl, hx, h⟩
  rcases h with ⟨hn, h⟩ | ⟨rfl, m, e, hl, h⟩
  · refine ⟨_, rfl, rfl, _, rfl, iteNeq (fun _ => ?_) fun z => absurd z hn⟩
    exact ⟨by show 0 ≤ sizeLine; decide, h⟩
  · refine ⟨_, rfl, rfl, _, rfl, iteNeq (fun z => absurd rfl z) fun _ => ?_⟩
    refine ⟨_, rfl, _, rfl, _, _, rfl, rfl, _, rfl, _, rfl, _, _, rfl, rfl, _, rfl, _, rfl, _, _, _, _, rfl, rfl, hx, atI_nat e, _, _, rfl, rfl, _, rfl, c, xs, rfl, hx, ?_⟩
    have e1 := cut_row xs hl
    rw [show ((j + 1 + m : Nat) : Int) = (j : Int) + 1 + (m : Int) by omega, show ((j + 1 : Nat) : Int) = (j : Int) + 1 by omega] at e1
    rw [e1]
    exact h
theorem pure_size_of_list : ∀ vs H Q E, sp_size_of_list K vs H Q E → t_size_of_list K E { nx := fun _ H' => Q .non H', rt := Q } (start ["calls", "number", "at"] vs) H := by
  rintro vs H Q E ⟨c, n, j, xs, rfl, hx, h⟩
  rcases h with ⟨hn, h⟩ | ⟨rfl, m, e, h⟩
  · exact ⟨_, rfl, rfl, _, rfl, iteNeq (fun _ => h) fun z => absurd z hn⟩
  · refine ⟨_, rfl, rfl, _, rfl, iteNeq (fun z => absurd rfl z) fun _ => ?_⟩
    exact ⟨_, rfl, _, rfl, _, _, _, _, rfl, rfl, hx, atI_nat e, _, _, rfl, rfl, qint h (by omega)⟩
end
end Wd
set_option Elab.async false
set_option linter.all false
set_option maxRecDepth 100000
set_option maxHeartbeats 4000000
namespace Wd
open PySem PySem.Spec PyProof.Rows L2
/-! ### what the document's machine does with a call, on the machine of the heap -/
theorem spec_set (s : Ra24.M) (k : Int) (x : Nat) : Ra24.spec (Ra24.part s) (.set k x) = if k < 0 ∨ 37 < k then ({ value := -2 }, Ra24.part s) else ({ value := 0 }, Ra24.part (setM s k.toNat x)) := by
  show (if k < 0 ∨ 37 < k then _ else _) = _
  by_cases h : k < 0 ∨ 37 < k
  · rw [if_pos h, if_pos h]
  rw [if_neg h, if_neg h]
  obtain ⟨n, rfl⟩ := Int.eq_ofNat_of_zero_le (show 0 ≤ k by omega)
  rw [Int.toNat_natCast]
  refine congrArg (Prod.mk _) ?_
  by_cases h1 : n < 32
  · rw [if_pos (show (n : Int) < 32 by omega), setM_lt h1]
    unfold Ra24.set
    split
    · rfl
    · split <;> rfl
  · rw [if_neg (show ¬ (n : Int) < 32 by omega)]
    obtain rfl | rfl | rfl | rfl | rfl | rfl : n = 32 ∨ n = 33 ∨ n = 34 ∨ n = 35 ∨ n = 36 ∨ n = 37 := by omega
    all_goals rfl
theorem spec_get (s : Ra24.M) (k : Int) : Ra24.spec (Ra24.part s) (.get k) = if k < 0 ∨ 37 < k then ({ value := -2 }, Ra24.part s) else ({ value := 0, number := some (getM s k.toNat) }, Ra24.part s) := by
  show (if k < 0 ∨ 37 < k then _ else _) = _
  by_cases h : k < 0 ∨ 37 < k
  · rw [if_pos h, if_pos h]
  rw [if_neg h, if_neg h]
  obtain ⟨n, rfl⟩ := Int.eq_ofNat_of_zero_le (show 0 ≤ k by omega)
  rw [Int.toNat_natCast]
  refine congrArg (fun z => (Prod.mk ({ value := 0, number := some z } : Ra24.Ans) (Ra24.part s))) ?_
  by_cases h1 : n < 32
  · rw [if_pos (show (n : Int) < 32 by omega)]
    unfold getM
    rw [if_pos h1]
    rfl
  · rw [if_neg (show ¬ (n : Int) < 32 by omega)]
    obtain rfl | rfl | rfl | rfl | rfl | rfl : n = 32 ∨ n = 33 ∨ n = 34 ∨ n = 35 ∨ n = 36 ∨ n = 37 := by omega
    all_goals rfl
theorem step_reset (c : Ra24.Cpu) : Ra24Neutral.step c [[0]] = (Ra24.fresh, [0]) := rfl
theorem step_set (s : Ra24.M) (k : Int) (x : Nat) : Ra24Neutral.step (Ra24.part s) [[1, k, (x : Int)]] = if k < 0 ∨ 37 < k then (Ra24.part s, [-2]) else (Ra24.part (setM s k.toNat x), [0]) := by
  have e : Ra24Neutral.parts (Ra24.part s) [[1, k, (x : Int)]] = ((Ra24.spec (Ra24.part s) (.set k x)).2, [[(Ra24.spec (Ra24.part s) (.set k x)).1.value], Ra24Neutral.ints ((Ra24.spec (Ra24.part s) (.set k x)).1.number.toList ++ (Ra24.spec (Ra24.part s) (.set k x)).1.told), Ra24Neutral.ints (Ra24Neutral.changed [] (Ra24.spec (Ra24.part s) (.set k x)).1.memory 0)]) := rfl
  unfold Ra24Neutral.step
  rw [e, spec_set]
  by_cases h : k < 0 ∨ 37 < k
  · rw [if_pos h, if_pos h]
    rfl
  · rw [if_neg h, if_neg h]
    rfl
theorem step_get (s : Ra24.M) (k : Int) : Ra24Neutral.step (Ra24.part s) [[2, k]] = if k < 0 ∨ 37 < k then (Ra24.part s, [-2]) else (Ra24.part s, [0, (getM s k.toNat : Int)]) := by
  have e : Ra24Neutral.parts (Ra24.part s) [[2, k]] = ((Ra24.spec (Ra24.part s) (.get k)).2, [[(Ra24.spec (Ra24.part s) (.get k)).1.value], Ra24Neutral.ints ((Ra24.spec (Ra24.part s) (.get k)).1.number.toList ++ (Ra24.spec (Ra24.part s) (.get k)).1.told), Ra24Neutral.ints (Ra24Neutral.changed [] (Ra24.spec (Ra24.part s) (.get k)).1.memory 0)]) := rfl
  unfold Ra24Neutral.step
  rw [e, spec_get]
  by_cases h : k < 0 ∨ 37 < k
  · rw [if_pos h, if_pos h]
    rfl
  · rw [if_neg h, if_neg h]
    rfl
theorem nats_ints (row : List Nat) : Ra24Neutral.nats (Ra24Neutral.ints row) = row := by
  unfold Ra24Neutral.nats Ra24Neutral.ints
  rw [List.map_map]
  have e : (Int.toNat ∘ fun (x : Nat) => (x : Int)) = id := funext fun x => Int.toNat_natCast x
  rw [e, List.map_id]
theorem spec_run (s : Ra24.M) (k : Int) (row : List Nat) : Ra24.spec (Ra24.part s) (.run row k) = if k < 0 ∨ 1000000 < k then ({ value := -2 }, Ra24.part s) else
    ({ value := ((Ra24.run k.toNat 0 { s with mem := fun q => row.getD q 0 }).2.2 : Int), memory := memoL (Ra24.run k.toNat 0 { s with mem := fun q => row.getD q 0 }).1, told := [(Ra24.run k.toNat 0 { s with mem := fun q => row.getD q 0 }).2.1] }, Ra24.part (Ra24.run k.toNat 0 { s with mem := fun q => row.getD q 0 }).1) := rfl
theorem step_run (s : Ra24.M) (k : Int) (row : List Nat) : Ra24Neutral.step (Ra24.part s) [[3, k], Ra24Neutral.ints row] = (Ra24.part (runOut s k row).1, (runOut s k row).2) := by
  have e : Ra24Neutral.parts (Ra24.part s) [[3, k], Ra24Neutral.ints row] = ((Ra24.spec (Ra24.part s) (.run (Ra24Neutral.nats (Ra24Neutral.ints row)) k)).2, [[(Ra24.spec (Ra24.part s) (.run (Ra24Neutral.nats (Ra24Neutral.ints row)) k)).1.value],
      Ra24Neutral.ints ((Ra24.spec (Ra24.part s) (.run (Ra24Neutral.nats (Ra24Neutral.ints row)) k)).1.number.toList ++ (Ra24.spec (Ra24.part s) (.run (Ra24Neutral.nats (Ra24Neutral.ints row)) k)).1.told),
      Ra24Neutral.ints (Ra24Neutral.changed (Ra24Neutral.nats (Ra24Neutral.ints row)) (Ra24.spec (Ra24.part s) (.run (Ra24Neutral.nats (Ra24Neutral.ints row)) k)).1.memory 0)]) := rfl
  unfold Ra24Neutral.step
  rw [e, nats_ints, spec_run]
  unfold runOut
  by_cases h : k < 0 ∨ 1000000 < k
  · rw [if_pos h, if_pos h]
    rfl
  · rw [if_neg h, if_neg h]
    generalize Ra24.run k.toNat 0 { s with mem := fun q => row.getD q 0 } = r
    obtain ⟨m, t, d⟩ := r
    refine congrArg (Prod.mk _) ?_
    show [(d : Int)] ++ ([(t : Int)] ++ (if ([(d : Int)].all fun (z : Int) => decide (0 ≤ z)) = true then Ra24Neutral.counted (Ra24Neutral.ints (Ra24Neutral.changed row (memoL m) 0)) else [])) = _
    have e1 : ([(d : Int)].all fun (z : Int) => decide (0 ≤ z)) = true := by
      show (decide ((0 : Int) ≤ (d : Int)) && true) = true
      rw [decide_eq_true (Int.natCast_nonneg d)]
      rfl
    rw [if_pos e1]
    rfl
/-! ### the line -/
theorem put_append : ∀ a b : List (List (List Int)), PyFlat.put (a ++ b) = PyFlat.put a ++ PyFlat.put b
  | [], _ => rfl
  | c :: a, b => by
    show PyFlat.put1 c ++ PyFlat.put (a ++ b) = (PyFlat.put1 c ++ PyFlat.put a) ++ PyFlat.put b
    rw [put_append a b, List.append_assoc]
theorem put_snoc (a : List (List (List Int))) (c : List (List Int)) : PyFlat.put (a ++ [c]) = PyFlat.put a ++ PyFlat.put1 c := by
  rw [put_append]
  show _ ++ (PyFlat.put1 c ++ []) = _
  rw [List.append_nil]
inductive OkC : List (List Int) → Prop where
  | reset : OkC [[0]]
  | set (k : Int) (x : Nat) (h : x < Ra24.W) : OkC [[1, k, (x : Int)]]
  | get (k : Int) : OkC [[2, k]]
  | run (k : Int) (row : List Nat) (h : row.length ≤ 1024) (b : ∀ n ∈ row, n < 256) : OkC [[3, k], Ra24Neutral.ints row]
theorem len0 {l : List Int} (h : l.length = 0) : l = [] := List.length_eq_zero_iff.mp h
theorem okC_of {c : List (List Int)} (h : PyFlat.okCall PyRa24.shape c) (hi : PyInside.call PyRa24.bound c = true) : OkC c := by
  obtain ⟨p, a, xs, rfl, hs⟩ := h
  unfold PyRa24.shape at hs
  have hi2 : (PyInside.each (PyRa24.bound p).1 a && PyInside.lists (PyRa24.bound p).2 xs) = true := hi
  by_cases h0 : p = 0
  · subst h0
    rw [if_pos rfl] at hs
    obtain ⟨h1, h2⟩ := Prod.mk.inj (Option.some.inj hs)
    rw [List.length_eq_zero_iff.mp h1.symm, List.length_eq_zero_iff.mp h2.symm]
    exact .reset
  rw [if_neg h0] at hs
  by_cases h1 : p = 1
  · subst h1
    rw [if_pos rfl] at hs
    obtain ⟨h1, h2⟩ := Prod.mk.inj (Option.some.inj hs)
    rw [List.length_eq_zero_iff.mp h2.symm] at hi2 ⊢
    match a, h1 with
    | [k, z], _ =>
      have q : ((PyInside.within (-2147483648) 2147483647 k && (PyInside.within 0 4294967295 z && true)) && true) = true := hi2
      unfold PyInside.within at q
      simp only [Bool.and_eq_true, decide_eq_true_eq] at q
      obtain ⟨x, rfl⟩ := Int.eq_ofNat_of_zero_le q.1.2.1.1
      exact .set k x (by rw [Wv]; omega)
  rw [if_neg h1] at hs
  by_cases h2 : p = 2
  · subst h2
    rw [if_pos rfl] at hs
    obtain ⟨h1, h2⟩ := Prod.mk.inj (Option.some.inj hs)
    rw [List.length_eq_zero_iff.mp h2.symm]
    match a, h1 with
    | [k], _ => exact .get k
  rw [if_neg h2] at hs
  by_cases h3 : p = 3
  · subst h3
    rw [if_pos rfl] at hs
    obtain ⟨h1, h2⟩ := Prod.mk.inj (Option.some.inj hs)
    match a, h1, xs, h2, hi2 with
    | [k], _, [r], _, hi2 =>
      have q : ((PyInside.within (-2147483648) 2147483647 k && true) && (decide (0 ≤ r.length) && decide (r.length ≤ 1024) && r.all (PyInside.within 0 255) && true)) = true := hi2
      simp only [Bool.and_eq_true, decide_eq_true_eq, List.all_eq_true] at q
      obtain ⟨_, ⟨⟨_, hl⟩, hb⟩, _⟩ := q
      have hb2 : ∀ z ∈ r, 0 ≤ z ∧ z ≤ 255 := fun z hz => by
        have w := hb z hz
        unfold PyInside.within at w
        simpa using w
      have e : r = Ra24Neutral.ints (r.map Int.toNat) := by
        unfold Ra24Neutral.ints
        rw [List.map_map]
        refine (List.map_id r).symm.trans (List.map_congr_left fun z hz => ?_)
        have w := hb2 z hz
        show z = ((z.toNat : Nat) : Int)
        omega
      rw [e]
      refine .run k _ (by rw [List.length_map]; exact hl) fun n hn => ?_
      obtain ⟨z, hz, rfl⟩ := List.mem_map.mp hn
      have w := hb2 z hz
      omega
  · rw [if_neg h3] at hs
    cases hs
theorem whole_is {c : List (List Int)} (h : OkC c) : PyRa24.whole c = c := by cases h <;> rfl
/-- a line that is asked: its calls -/
theorem asked_is {l : List Int} (h : PyRa24.answers_asked l = true) : ∃ raw, l = PyFlat.put raw ∧ (∀ c ∈ raw, OkC c) ∧ PyRa24.answers l = PyFlat.told (PyFlat.played Ra24Neutral.step Ra24Neutral.start raw) ∧ (PyRa24.answers l).length ≤ 10000000 := by
  unfold PyRa24.answers_asked at h
  cases hc : PyFlat.calls PyRa24.shape l.length l with
  | none =>
    rw [hc] at h
    cases h
  | some raw =>
    rw [hc] at h
    have h : (!raw.isEmpty && PyFlat.atMost 1000 raw && PyInside.calls PyRa24.bound raw && Ra24Neutral.asked (raw.map PyRa24.whole) && PyFlat.short 10000000 (PyRa24.answers l)) = true := h
    simp only [Bool.and_eq_true] at h
    obtain ⟨⟨⟨⟨_, _⟩, hin⟩, _⟩, hsh⟩ := h
    obtain ⟨e, ok⟩ := PyFlat.put_calls _ _ _ hc
    have hin2 : ∀ c ∈ raw, PyInside.call PyRa24.bound c = true := List.all_eq_true.mp hin
    have okc : ∀ c ∈ raw, OkC c := fun c hm => okC_of (ok c hm) (hin2 c hm)
    refine ⟨raw, e, okc, ?_, of_decide_eq_true hsh⟩
    have e2 : PyRa24.calls l = some raw := by
      unfold PyRa24.calls
      rw [hc]
      refine congrArg some ((List.map_congr_left fun c hm => whole_is (okc c hm)).trans (List.map_id raw))
    unfold PyRa24.answers
    rw [e2]
end Wd
set_option Elab.async false
set_option linter.all false
set_option maxRecDepth 100000
set_option maxHeartbeats 4000000
namespace Wd
open PySem PySem.Spec PyProof.Rows L2
theorem SqL.keep {K : PySem.W.Frag} {H H' : Hp} {c : Addr} {xs : List V} (h : SqL K H c xs) (e : Same H H') : SqL K H' c xs :=
  h.elim (fun h => .inl (h.elim (fun h => .inl (e _ _ h)) fun ⟨o, h⟩ => .inr ⟨o, e _ _ h⟩)) fun h => .inr h
theorem at_put {raw done r : List (List (List Int))} {c : List (List Int)} (h : raw = done ++ c :: r) (i : Nat) : (intsV (PyFlat.put raw))[(PyFlat.put done).length + i]? = ((PyFlat.put1 c ++ PyFlat.put r)[i]?).map V.int := by
  subst h
  unfold intsV
  rw [put_append, List.getElem?_map, List.getElem?_append_right (Nat.le_add_right _ _), Nat.add_sub_cancel_left]
  rfl
theorem cut_put {raw done r : List (List (List Int))} {c : List (List Int)} (h : raw = done ++ c :: r) (i n : Nat) : ((intsV (PyFlat.put raw)).drop ((PyFlat.put done).length + i)).take n = intsV (((PyFlat.put1 c ++ PyFlat.put r).drop i).take n) := by
  subst h
  unfold intsV
  rw [put_append, ← List.map_drop, ← List.map_take, ← List.drop_drop, List.drop_left']
  · rfl
  · rfl
theorem len_put {raw done r : List (List (List Int))} {c : List (List Int)} (h : raw = done ++ c :: r) : (intsV (PyFlat.put raw)).length = (PyFlat.put done).length + ((PyFlat.put1 c).length + (PyFlat.put r).length) := by
  subst h
  unfold intsV
  rw [List.length_map, put_append, List.length_append]
  show _ + (PyFlat.put1 c ++ PyFlat.put r).length = _
  rw [List.length_append]
section
variable {K : PySem.W.Frag} {mg : Str → Option Value}
theorem Mach.other {H : Hp} {A : Ad} {s : Ra24.M} {F : Addr} {l l2 : List Int} (M : Mach K H A s) (hF : H F = some (.lst (intsV l))) (n : ¬ A.own F) : Mach K (upd H F (.lst (intsV l2))) A s := by
  obtain ⟨c, hm, dc, hc⟩ := M.m
  have nws : A.ws ≠ F := fun z => by
    have h := M.ws
    rw [z, hF] at h
    have e : intsV l = wsL A := HO.lst.inj (Option.some.inj h)
    have e0 : (wsL A)[0]? = some (.ref (A.wa 0)) := ws_at (by decide)
    rw [← e] at e0
    unfold intsV at e0
    rw [List.getElem?_map] at e0
    cases q : l[0]? with
    | none =>
      rw [q] at e0
      cases e0
    | some v =>
      rw [q] at e0
      cases e0
  exact ⟨⟨c, by rw [upd_ne (ne_il hm hF)]; exact hm, dc, by rw [upd_ne (ne_il hc hF)]; exact hc⟩, by rw [upd_ne (ne_il M.r hF)]; exact M.r, by rw [upd_ne fun z => n (.inr (.inr (.inl z.symm)))]; exact M.sh, by rw [upd_ne nws]; exact M.ws,
    fun i hi => by rw [upd_ne fun z => n (.inr (.inr (.inr (.inr ⟨i, hi, z.symm⟩))))]; exact M.w i hi, by rw [upd_ne fun z => n (.inr (.inr (.inr (.inl z.symm))))]; exact M.me, M.d1, M.d2, M.d3, M.ok⟩
abbrev outs (st : Ra24.Cpu) (l : List (List (List Int))) : List Int := PyFlat.told (PyFlat.played Ra24Neutral.step st l)
theorem outs_cons {st st' : Ra24.Cpu} {out : List Int} {c : List (List Int)} {r : List (List (List Int))} (h : Ra24Neutral.step st c = (st', out)) : outs st (c :: r) = (out.length : Int) :: (out ++ outs st' r) := by
  show PyFlat.told ((Ra24Neutral.step st c).2 :: PyFlat.played Ra24Neutral.step (Ra24Neutral.step st c).1 r) = _
  rw [h]
  rfl
/-- the loop's truth: m calls are left -/
def Left (K : PySem.W.Frag) (H0 : Hp) (c : Addr) (raw : List (List (List Int))) (ans : List Int) (m : Nat) (σ : L2.St) (H : Hp) : Prop :=
  ∃ (done rest : List (List (List Int))) (A : Ad) (s : Ra24.M) (F : Addr) (pre : List Int) (v4 v5 v6 v7 : Option V), raw = done ++ rest ∧ m = rest.length ∧
    σ = [some (.ref c), some (.ref A.m), some (.ref F), some (.int ((PyFlat.put done).length : Int)), v4, v5, v6, v7] ∧ Mach K H A s ∧ H F = some (.lst (intsV pre)) ∧ H0 F = none ∧ ¬ A.own F ∧ Same H0 H ∧ (∀ b, A.own b → H0 b = none) ∧
    pre ++ outs (Ra24.part s) rest = ans
theorem intsV_append (a b : List Int) : intsV (a ++ b) = intsV a ++ intsV b := List.map_append
theorem intsV_len (a : List Int) : (intsV a).length = a.length := List.length_map _
def t_tail (K : PySem.W.Frag) : TS :=
  (tSeq (tDrop (tBM K "list" rAppend (tVar 2) (tCons (tCB (rLenL K) (tCons (tVar 7) tNil)) tNil)))
    (tSeq (tDrop (tBM K "list" rExtend (tVar 2) (tCons (tVar 7) tNil)))
    (tAsg (tOp rAddI (tVar 5) (tCall (sp_size_of_list K) [] E0 (tCons (tVar 0) (tCons (tVar 4) (tCons (tVar 5) tNil))))) (gName 3))))
theorem ans_tail {H0 H1 : Hp} {c O F : Addr} {raw done rest : List (List (List Int))} {cc : List (List Int)} {A : Ad} {s' : Ra24.M} {pre out ans : List Int} {p : Int} {b : Nat} {v6 : Option V} {N : L2.St → Hp → Prop} {D : Ends}
    (hraw : raw = done ++ cc :: rest) (hc : SqL K H0 c (intsV (PyFlat.put raw))) (M : Mach K H1 A s') (hO : H1 O = some (.lst (intsV out))) (hF : H1 F = some (.lst (intsV pre))) (OF : O ≠ F) (h0F : H0 F = none) (nF : ¬ A.own F) (sm : Same H0 H1) (own : ∀ b, A.own b → H0 b = none)
    (hpre : pre ++ (out.length : Int) :: (out ++ outs (Ra24.part s') rest) = ans) (hlen : ans.length ≤ 10000000)
    (hsz : (p ≠ 3 ∧ b = (PyFlat.put (done ++ [cc])).length) ∨ (p = 3 ∧ ∃ m : Nat, (intsV (PyFlat.put raw))[b]? = some (.int (m : Int)) ∧ b + (1 + m) = (PyFlat.put (done ++ [cc])).length))
    (hN : ∀ σ H, Left K H0 c raw ans rest.length σ H → D.nx σ H) :
    t_tail K D [some (.ref c), some (.ref A.m), some (.ref F), some (.int ((PyFlat.put done).length : Int)), some (.int p), some (.int (b : Int)), v6, some (.ref O)] H1 := by
  have hl : pre.length + (out.length + 1) ≤ 10000000 := by
    rw [← hpre] at hlen
    simp only [List.length_append, List.length_cons] at hlen
    omega
  refine ⟨_, rfl, Or.inl ⟨rfl, _, SqL.of hF⟩, _, rfl, O, _, rfl, Or.inl (SqL.of hO), F, _, _, rfl, rfl, hF, ?_, ?_⟩
  · rw [intsV_len]
    show pre.length < 16777216
    omega
  rw [intsV_len, show intsV pre ++ [V.int (out.length : Int)] = intsV (pre ++ [(out.length : Int)]) from (intsV_append pre [(out.length : Int)]).symm]
  have hO1 : upd H1 F (.lst (intsV (pre ++ [(out.length : Int)]))) O = some (.lst (intsV out)) := by
    rw [upd_ne OF]
    exact hO
  refine ⟨_, rfl, Or.inl ⟨rfl, _, SqL.of upd_same⟩, _, rfl, F, O, _, _, rfl, rfl, upd_same, hO1, ?_, ?_⟩
  · rw [intsV_len, intsV_len, List.length_append]
    show pre.length + 1 + out.length ≤ 16777216
    omega
  rw [← intsV_append]
  have M1 : Mach K (upd H1 F (.lst (intsV (pre ++ [(out.length : Int)])))) A s' := M.other hF nF
  have M2 : Mach K (upd (upd H1 F (.lst (intsV (pre ++ [(out.length : Int)])))) F (.lst (intsV (pre ++ [(out.length : Int)] ++ out)))) A s' := M1.other upd_same nF
  have s2 : Same H0 (upd (upd H1 F (.lst (intsV (pre ++ [(out.length : Int)])))) F (.lst (intsV (pre ++ [(out.length : Int)] ++ out)))) := fun b o e => by
    rw [upd_ne (ne_of_none e h0F), upd_ne (ne_of_none e h0F)]
    exact sm b o e
  have fin : ∀ z : Int, z = ((PyFlat.put (done ++ [cc])).length : Int) → D.nx [some (.ref c), some (.ref A.m), some (.ref F), some (.int z), some (.int p), some (.int (b : Int)), v6, some (.ref O)]
      (upd (upd H1 F (.lst (intsV (pre ++ [(out.length : Int)])))) F (.lst (intsV (pre ++ [(out.length : Int)] ++ out)))) := by
    rintro z rfl
    refine hN _ _ ⟨done ++ [cc], rest, A, s', F, pre ++ [(out.length : Int)] ++ out, _, _, _, _, ?_, rfl, rfl, M2, upd_same, h0F, nF, s2, own, ?_⟩
    · rw [List.append_assoc]
      exact hraw
    · rw [← hpre, List.append_assoc, List.append_assoc]
      rfl
  refine ⟨_, rfl, _, rfl, _, rfl, _, rfl, c, p, b, _, rfl, SqL.keep hc s2, ?_⟩
  rcases hsz with ⟨h1, h2⟩ | ⟨h1, m, h2, h3⟩
  · exact Or.inl ⟨h1, _, _, rfl, rfl, fin _ (by omega)⟩
  · exact Or.inr ⟨h1, m, h2, _, _, rfl, rfl, fin _ (by omega)⟩
end
end Wd
set_option Elab.async false
set_option linter.all false
set_option maxRecDepth 100000
set_option maxHeartbeats 4000000
namespace Wd
open PySem PySem.Spec PyProof.Rows L2
theorem Same.none {H H' : Hp} (e : Same H H') {b : Addr} (h : H' b = none) : H b = none := by
  cases z : H b with
  | none => rfl
  | some o =>
    rw [e b o z] at h
    cases h
section
variable {K : PySem.W.Frag} {mg : Str → Option Value}
theorem out_tail {H0 H3 : Hp} {c F : Addr} {raw done rest : List (List (List Int))} {cc : List (List Int)} {A : Ad} {s s' : Ra24.M} {pre out ans : List Int} {p : Int} {b : Nat} {v6 : Option V} {D : Ends} {Q : VK}
    (hraw : raw = done ++ cc :: rest) (hc : SqL K H0 c (intsV (PyFlat.put raw))) (hF : H3 F = some (.lst (intsV pre))) (h0F : H0 F = none) (nF : ¬ A.own F) (sm : Same H0 H3) (own : ∀ b, A.own b → H0 b = none)
    (hpre : pre ++ outs (Ra24.part s) (cc :: rest) = ans) (hst : Ra24Neutral.step (Ra24.part s) cc = (Ra24.part s', out)) (hlen : ans.length ≤ 10000000)
    (hsz : (p ≠ 3 ∧ b = (PyFlat.put (done ++ [cc])).length) ∨ (p = 3 ∧ ∃ m : Nat, (intsV (PyFlat.put raw))[b]? = some (.int (m : Int)) ∧ b + (1 + m) = (PyFlat.put (done ++ [cc])).length))
    (hN : ∀ σ H, Left K H0 c raw ans rest.length σ H → D.nx σ H)
    (hQ : ∀ O H', t_tail K D [some (.ref c), some (.ref A.m), some (.ref F), some (.int ((PyFlat.put done).length : Int)), some (.int p), some (.int (b : Int)), v6, some (.ref O)] H' → Q (.ref O) H') :
    ListOut K H3 A Q s' out := by
  intro H' O A' hO1 hO2 M' ad f kp
  rw [outs_cons hst] at hpre
  have h := ans_tail (A := A') (O := O) (v6 := v6) (N := fun _ _ => True) hraw hc M' hO2 (f F _ hF nF) (Ne.symm (ne_of_none hF hO1)) h0F (fun w => by
    rcases ad.2 F w with z | z
    · exact nF z
    · rw [hF] at z
      cases z) (fun x o e => f x o (sm x o e) fun w => by
    rw [own x w] at e
    cases e) (fun x w => by
    rcases ad.2 x w with z | z
    · exact own x z
    · exact Same.none sm z) hpre hlen hsz hN
  rw [ad.1] at h
  exact hQ _ _ h
def t_body (K : PySem.W.Frag) : TS :=
  (tSeq (tAsg (tOp (rIxL K) (tVar 0) (tVar 3)) (gName 4))
    (tSeq (tAsg (tOp rAddI (tOp rAddI (tVar 3) (tC (.int 1))) (tOp (rIxT K) (tC (.ref (He.ga K "NUMBERS"))) (tVar 4))) (gName 5))
    (tSeq (tAsg (tCall (sp_list_at K) [] E0 (tCons (tVar 0) (tCons (tVar 4) (tCons (tVar 5) tNil)))) (gName 6))
    (tSeq (tIfS (tTest (tOp rEq (tVar 4) (tC (.int 0)))) (tSeq (tAsg (tMake (He.ga K "Machine") (sp_Machine_init K) [] E0 tNil) (gName 1))
    (tAsg (tLst (tCons (tC (.int 0)) tNil)) (gName 7))) (tAsg (tCall (sp_answer K) [] E0 (tCons (tVar 1) (tCons (tVar 4) (tCons (tSl (rSlL K) (tVar 0) (tPart (tOp rAddI (tVar 3) (tC (.int 1)))) (tPart (tVar 5))) (tCons (tVar 6) tNil))))) (gName 7)))
    (t_tail K)))))
theorem body_ok (T : Txt K mg) (Xt : Ex K) {H0 H1 : Hp} {c F : Addr} {raw done rest : List (List (List Int))} {cc : List (List Int)} {A : Ad} {s : Ra24.M} {pre ans : List Int} {v4 v5 v6 v7 : Option V} {D : Ends} (hok : OkC cc)
    (hraw : raw = done ++ cc :: rest) (hc : SqL K H0 c (intsV (PyFlat.put raw))) (M : Mach K H1 A s) (hF : H1 F = some (.lst (intsV pre))) (h0F : H0 F = none) (nF : ¬ A.own F) (sm : Same H0 H1) (own : ∀ b, A.own b → H0 b = none)
    (hpre : pre ++ outs (Ra24.part s) (cc :: rest) = ans) (hlen : ans.length ≤ 10000000) (hN : ∀ σ H, Left K H0 c raw ans rest.length σ H → D.nx σ H) :
    t_body K D [some (.ref c), some (.ref A.m), some (.ref F), some (.int ((PyFlat.put done).length : Int)), v4, v5, v6, v7] H1 := by
  have hc1 := SqL.keep hc sm
  have hln := len_put hraw
  have hsn := put_snoc done cc
  cases hok with
  | reset =>
    refine ⟨_, rfl, _, rfl, c, _, _, .int 0, rfl, rfl, hc1, atI_nat (at_put hraw 0), ?_⟩
    refine ⟨_, rfl, _, _, rfl, rfl, _, rfl, _, _, _, .int 0, rfl, rfl, Xt.nums H1, atI_nat (j := 0) rfl, _, _, rfl, rfl, ?_⟩
    dsimp only
    rw [show ((PyFlat.put done).length : Int) + 1 + 0 = (((PyFlat.put done).length + 1 : Nat) : Int) by omega]
    refine ⟨_, rfl, _, rfl, _, rfl, c, 0, _, _, rfl, hc1, Or.inl ⟨by decide, fun R hR => ?_⟩⟩
    have s2 : Same H1 (upd H1 R (.lst [])) := Same.new hR
    refine ⟨_, rfl, rfl, _, rfl, iteT rfl ?_⟩
    intro x dx hx hdx hne
    refine ⟨x, dx, rfl, upd_same, fun H3 A2 M2 am k2 n2 => ⟨rfl, ?_⟩⟩
    have s3 : Same H1 H3 := fun b o e => by
      have e2 := s2 b o e
      exact k2 b o (by rw [upd_ne (ne_of_none e2 hx), upd_ne (ne_of_none e2 hdx)]; exact e2) (ne_of_none e2 hx)
    have o2 : ∀ b, A2.own b → H1 b = none := fun b w => by
      rcases n2 b w with z | z
      · rw [z]
        exact Same.none s2 hx
      · exact Same.none s2 (upd_none (upd_none z).2).2
    refine ⟨by show 1 ≤ sizeLine; decide, fun O hO => ?_⟩
    have s4 := Same.new (o := .lst [V.int 0]) hO
    subst am
    rw [outs_cons (step_reset (Ra24.part s))] at hpre
    exact ans_tail (A := A2) (O := O) (s' := start0) (out := [0]) (p := 0) (b := (PyFlat.put done).length + 1) (D := D) (N := fun _ _ => True) hraw hc (M2.mono s4) upd_same (s4 _ _ (s3 _ _ hF)) (Ne.symm (ne_of_none (s3 _ _ hF) hO)) h0F (fun w => by
      have z := o2 F w
      rw [hF] at z
      cases z) (fun b o e => s4 b o (s3 b o (sm b o e))) (fun b w => Same.none sm (o2 b w)) hpre hlen (Or.inl ⟨by decide, by rw [hsn, List.length_append]; rfl⟩) hN
  | set k x hx =>
    refine ⟨_, rfl, _, rfl, c, _, _, .int 1, rfl, rfl, hc1, atI_nat (at_put hraw 0), ?_⟩
    refine ⟨_, rfl, _, _, rfl, rfl, _, rfl, _, _, _, .int 2, rfl, rfl, Xt.nums H1, atI_nat (j := 1) rfl, _, _, rfl, rfl, ?_⟩
    dsimp only
    rw [show ((PyFlat.put done).length : Int) + 1 + 2 = (((PyFlat.put done).length + 3 : Nat) : Int) by omega]
    refine ⟨_, rfl, _, rfl, _, rfl, c, 1, _, _, rfl, hc1, Or.inl ⟨by decide, fun R hR => ?_⟩⟩
    have s2 : Same H1 (upd H1 R (.lst [])) := Same.new hR
    refine ⟨_, rfl, rfl, _, rfl, iteN (by decide) ?_⟩
    have ec : cutV (intsV (PyFlat.put raw)) (some (((PyFlat.put done).length : Int) + 1)) (some (((PyFlat.put done).length + 3 : Nat) : Int)) = [.int k, .int (x : Int)] := by
      have h := cut_row (intsV (PyFlat.put raw)) (p := (PyFlat.put done).length + 1) (n := 2) (by rw [hln]; show _ ≤ _ + (3 + _); omega)
      rw [show (((PyFlat.put done).length + 1 : Nat) : Int) = ((PyFlat.put done).length : Int) + 1 by omega] at h
      exact h.trans (cut_put hraw 1 2)
    refine ⟨_, rfl, _, rfl, _, rfl, _, rfl, _, _, rfl, rfl, _, rfl, _, rfl, _, rfl, c, _, rfl, SqL.keep hc1 s2, fun g hg => ?_⟩
    rw [ec]
    have s3 : Same H1 (upd (upd H1 R (.lst [])) g (.lst [.int k, .int (x : Int)])) := fun b o e => Same.new hg b o (s2 b o e)
    refine ⟨_, rfl, A.m, g, .ref R, 1, rfl, Or.inl ⟨rfl, k, (x : Int), upd_same, A, s, k, x, rfl, M.mono s3, hx, ?_⟩⟩
    have hst := step_set s k x
    by_cases h : k < 0 ∨ 37 < k
    · rw [if_pos h] at hst ⊢
      exact out_tail (D := D) (b := (PyFlat.put done).length + 3) (p := 1) hraw hc (s3 _ _ hF) h0F nF (fun b o e => s3 b o (sm b o e)) own hpre hst hlen (Or.inl ⟨by decide, by rw [hsn, List.length_append]; rfl⟩) hN fun O H' h => h
    · rw [if_neg h] at hst ⊢
      exact out_tail (D := D) (b := (PyFlat.put done).length + 3) (p := 1) hraw hc (s3 _ _ hF) h0F nF (fun b o e => s3 b o (sm b o e)) own hpre hst hlen (Or.inl ⟨by decide, by rw [hsn, List.length_append]; rfl⟩) hN fun O H' h => h
  | get k =>
    refine ⟨_, rfl, _, rfl, c, _, _, .int 2, rfl, rfl, hc1, atI_nat (at_put hraw 0), ?_⟩
    refine ⟨_, rfl, _, _, rfl, rfl, _, rfl, _, _, _, .int 1, rfl, rfl, Xt.nums H1, atI_nat (j := 2) rfl, _, _, rfl, rfl, ?_⟩
    dsimp only
    rw [show ((PyFlat.put done).length : Int) + 1 + 1 = (((PyFlat.put done).length + 2 : Nat) : Int) by omega]
    refine ⟨_, rfl, _, rfl, _, rfl, c, 2, _, _, rfl, hc1, Or.inl ⟨by decide, fun R hR => ?_⟩⟩
    have s2 : Same H1 (upd H1 R (.lst [])) := Same.new hR
    refine ⟨_, rfl, rfl, _, rfl, iteN (by decide) ?_⟩
    have ec : cutV (intsV (PyFlat.put raw)) (some (((PyFlat.put done).length : Int) + 1)) (some (((PyFlat.put done).length + 2 : Nat) : Int)) = [.int k] := by
      have h := cut_row (intsV (PyFlat.put raw)) (p := (PyFlat.put done).length + 1) (n := 1) (by rw [hln]; show _ ≤ _ + (2 + _); omega)
      rw [show (((PyFlat.put done).length + 1 : Nat) : Int) = ((PyFlat.put done).length : Int) + 1 by omega] at h
      exact h.trans (cut_put hraw 1 1)
    refine ⟨_, rfl, _, rfl, _, rfl, _, rfl, _, _, rfl, rfl, _, rfl, _, rfl, _, rfl, c, _, rfl, SqL.keep hc1 s2, fun g hg => ?_⟩
    rw [ec]
    have s3 : Same H1 (upd (upd H1 R (.lst [])) g (.lst [.int k])) := fun b o e => Same.new hg b o (s2 b o e)
    refine ⟨_, rfl, A.m, g, .ref R, 2, rfl, Or.inr (Or.inl ⟨rfl, k, upd_same, A, s, k, rfl, M.mono s3, ?_⟩)⟩
    have hst := step_get s k
    by_cases h : k < 0 ∨ 37 < k
    · rw [if_pos h] at hst ⊢
      exact out_tail (D := D) (b := (PyFlat.put done).length + 2) (p := 2) hraw hc (s3 _ _ hF) h0F nF (fun b o e => s3 b o (sm b o e)) own hpre hst hlen (Or.inl ⟨by decide, by rw [hsn, List.length_append]; rfl⟩) hN fun O H' h => h
    · rw [if_neg h] at hst ⊢
      exact out_tail (D := D) (b := (PyFlat.put done).length + 2) (p := 2) hraw hc (s3 _ _ hF) h0F nF (fun b o e => s3 b o (sm b o e)) own hpre hst hlen (Or.inl ⟨by decide, by rw [hsn, List.length_append]; rfl⟩) hN fun O H' h => h
  | run k row hrl hrb =>
    have ep : PyFlat.put1 [[3, k], Ra24Neutral.ints row] = 3 :: k :: ((Ra24Neutral.ints row).length : Int) :: Ra24Neutral.ints row := by
      show [3, k] ++ (((Ra24Neutral.ints row).length : Int) :: Ra24Neutral.ints row ++ []) = _
      rw [List.append_nil]
      rfl
    have el : (PyFlat.put1 [[3, k], Ra24Neutral.ints row]).length = 3 + (Ra24Neutral.ints row).length := by
      rw [ep]
      show (Ra24Neutral.ints row).length + 1 + 1 + 1 = _
      omega
    rw [el] at hln
    have e2 : (intsV (PyFlat.put raw))[(PyFlat.put done).length + 2]? = some (.int ((Ra24Neutral.ints row).length : Int)) := at_put hraw 2
    refine ⟨_, rfl, _, rfl, c, _, _, .int 3, rfl, rfl, hc1, atI_nat (at_put hraw 0), ?_⟩
    refine ⟨_, rfl, _, _, rfl, rfl, _, rfl, _, _, _, .int 1, rfl, rfl, Xt.nums H1, atI_nat (j := 3) rfl, _, _, rfl, rfl, ?_⟩
    dsimp only
    rw [show ((PyFlat.put done).length : Int) + 1 + 1 = (((PyFlat.put done).length + 2 : Nat) : Int) by omega]
    refine ⟨_, rfl, _, rfl, _, rfl, c, 3, _, _, rfl, hc1, Or.inr ⟨rfl, (Ra24Neutral.ints row).length, e2, by rw [hln]; omega, fun R hR => ?_⟩⟩
    have er : ((intsV (PyFlat.put raw)).drop ((PyFlat.put done).length + 2 + 1)).take (Ra24Neutral.ints row).length = natsV row := by
      refine (cut_put hraw 3 _).trans ?_
      rw [ep]
      show intsV ((Ra24Neutral.ints row ++ PyFlat.put rest).take (Ra24Neutral.ints row).length) = _
      rw [List.take_left' rfl, intsV_ints]
    rw [er]
    have s2 : Same H1 (upd H1 R (.lst (natsV row))) := Same.new hR
    refine ⟨_, rfl, rfl, _, rfl, iteN (by decide) ?_⟩
    have ec : cutV (intsV (PyFlat.put raw)) (some (((PyFlat.put done).length : Int) + 1)) (some (((PyFlat.put done).length + 2 : Nat) : Int)) = [.int k] := by
      have h := cut_row (intsV (PyFlat.put raw)) (p := (PyFlat.put done).length + 1) (n := 1) (by rw [hln]; omega)
      rw [show (((PyFlat.put done).length + 1 : Nat) : Int) = ((PyFlat.put done).length : Int) + 1 by omega] at h
      exact h.trans (cut_put hraw 1 1)
    refine ⟨_, rfl, _, rfl, _, rfl, _, rfl, _, _, rfl, rfl, _, rfl, _, rfl, _, rfl, c, _, rfl, SqL.keep hc1 s2, fun g hg => ?_⟩
    rw [ec]
    have s3 : Same H1 (upd (upd H1 R (.lst (natsV row))) g (.lst [.int k])) := fun b o e => Same.new hg b o (s2 b o e)
    refine ⟨_, rfl, A.m, g, .ref R, 3, rfl, Or.inr (Or.inr ⟨rfl, k, upd_same, A, s, k, R, row, rfl, M.mono s3, Same.new hg _ _ upd_same, fun w => M.there w hR, ⟨hrl, hrb⟩, ?_⟩)⟩
    exact out_tail (D := D) (b := (PyFlat.put done).length + 2) (p := 3) hraw hc (s3 _ _ hF) h0F nF (fun b o e => s3 b o (sm b o e)) own hpre (step_run s k row) hlen (Or.inr ⟨rfl, _, e2, by rw [hsn, List.length_append, el]; omega⟩) hN fun O H' h => h
theorem okC_put {cc : List (List Int)} (h : OkC cc) : 0 < (PyFlat.put1 cc).length := by
  cases h <;> exact Nat.succ_pos _
theorem pure_answers (T : Txt K mg) (Xt : Ex K) : ∀ vs H Q E, sp_answers K vs H Q E → t_answers K E { nx := fun _ H' => Q .non H', rt := Q } (start ["calls", "machine", "found", "at", "number", "behind", "row", "one"] vs) H := by
  rintro vs H Q E ⟨c, l, rfl, hc, hask, hQ⟩
  obtain ⟨raw, rfl, hok, hans, hlen⟩ := asked_is hask
  rw [hans] at hlen hQ
  intro x dx hx hdx hne
  refine ⟨x, dx, rfl, upd_same, fun H1 A M am k1 n1 => ⟨rfl, ?_⟩⟩
  have s1 : Same H H1 := fun b o e => k1 b o (by rw [upd_ne (ne_of_none e hx), upd_ne (ne_of_none e hdx)]; exact e) (ne_of_none e hx)
  have own : ∀ b, A.own b → H b = none := fun b w => by
    rcases n1 b w with z | z
    · rw [z]
      exact hx
    · exact (upd_none (upd_none z).2).2
  refine ⟨by show 0 ≤ sizeLine; decide, fun F hF => ?_⟩
  have s2 := Same.new (o := .lst []) hF
  subst am
  refine ⟨Left K H c raw (outs Ra24Neutral.start raw), ⟨raw.length, [], raw, A, start0, F, [], none, none, none, none, rfl, rfl, rfl, M.mono s2, upd_same, Same.none s1 hF, fun w => M.there w hF, fun b o e => s2 b o (s1 b o e), own, rfl⟩, ?_⟩
  rintro m σ H3 ⟨done, rest, A3, s, F3, pre, v4, v5, v6, v7, hraw, rfl, rfl, M3, hF3, h0F, nF, sm, own3, hpre⟩
  have hc3 := SqL.keep hc sm
  refine ⟨_, rfl, _, rfl, c, _, rfl, Or.inl hc3, _, _, rfl, rfl, _, rfl, iteD (fun h => ?_) fun h => ?_⟩
  · cases rest with
    | nil =>
      rw [List.append_nil] at hraw
      subst hraw
      rw [intsV_len] at h
      omega
    | cons cc r =>
      refine ⟨Left K H c raw (outs Ra24Neutral.start raw) r.length, fun σ' H' w => ⟨r.length, Nat.lt_succ_self _, w⟩, ?_⟩
      exact body_ok T Xt (hok cc (by rw [hraw]; exact List.mem_append_right _ (List.Mem.head _))) hraw hc M3 hF3 h0F nF sm own3 hpre hlen fun σ' H' w => w
  · cases rest with
    | nil =>
      rw [show outs (Ra24.part s) [] = [] from rfl, List.append_nil] at hpre
      subst hpre
      exact ⟨_, rfl, hQ H3 F3 hF3⟩
    | cons cc r =>
      have h2 := len_put hraw
      have h3 := okC_put (hok cc (by rw [hraw]; exact List.mem_append_right _ (List.Mem.head _)))
      omega
end
end Wd
set_option Elab.async false
set_option linter.all false
set_option maxRecDepth 100000
set_option maxHeartbeats 4000000
namespace Wd
open PySem PySem.Spec PyProof.Rows L2
/-! ### all defs together (printed by genend.py) -/
section
variable {P : Program} {w : World} {K : PySem.W.Frag} {mg : Str → Option Value} {base : Heap}
theorem go_part_signed (T : Txt K mg) (Xt : Ex K) : CallG P w K mg base CX0 1 "part_signed" ["part", "bits"] (sp_part_signed K) :=
  ok_part_signed T  (fun vs H Q E h => by obtain ⟨_, _, e, _⟩ := h; rw [e] <;> rfl) pure_part_signed
theorem go_signed (T : Txt K mg) (Xt : Ex K) : CallG P w K mg base CX0 2 "signed" ["word"] (sp_signed K) :=
  ok_signed T (go_part_signed T Xt) (fun vs H Q E h => by obtain ⟨_, e, _⟩ := h; rw [e] <;> rfl) pure_signed
theorem go_bits_of (T : Txt K mg) (Xt : Ex K) : CallG P w K mg base CX0 1 "bits_of" ["word", "last", "many"] (sp_bits_of K) :=
  ok_bits_of T  (fun vs H Q E h => by obtain ⟨_, _, _, e, _⟩ := h; rw [e] <;> rfl) pure_bits_of
theorem go_is_fit (T : Txt K mg) (Xt : Ex K) : CallG P w K mg base CX0 1 "is_fit" ["number"] (sp_is_fit K) :=
  ok_is_fit T  (fun vs H Q E h => by obtain ⟨_, e, _⟩ := h; rw [e] <;> rfl) pure_is_fit
theorem go_Conditions_init (T : Txt K mg) (Xt : Ex K) : MakeG P w K mg base CX0 1 "Conditions" (He.ga K "Conditions") ["self", "n", "z", "v", "c"] (sp_Conditions_init K) :=
  ok_Conditions_init T  (fun vs H Q E h => by obtain ⟨_, _, _, e, _⟩ := h; rw [e] <;> rfl) (pure_Conditions_init T)
theorem go_Conditions_bits (T : Txt K mg) (Xt : Ex K) : MethG P w K mg base CX0 1 (He.ga K "Conditions") "bits" ["self"] (sp_Conditions_bits K) :=
  ok_Conditions_bits T  (fun vs H Q E h => by obtain ⟨_, _, e, _⟩ := h; rw [e] <;> rfl) (pure_Conditions_bits T)
theorem go_Conditions_first (T : Txt K mg) (Xt : Ex K) : MethG P w K mg base CX0 1 (He.ga K "Conditions") "first" ["self", "number"] (sp_Conditions_first K) :=
  ok_Conditions_first T  (fun vs H Q E h => by obtain ⟨_, _, _, e, _⟩ := h; rw [e] <;> rfl) (pure_Conditions_first T)
theorem go_Conditions_holds (T : Txt K mg) (Xt : Ex K) : MethG P w K mg base CX0 2 (He.ga K "Conditions") "holds" ["self", "number"] (sp_Conditions_holds K) :=
  ok_Conditions_holds T (go_Conditions_first T Xt) (fun vs H Q E h => by obtain ⟨_, _, _, e, _⟩ := h; rw [e] <;> rfl) pure_Conditions_holds
theorem go_conditions_of (T : Txt K mg) (Xt : Ex K) : CallG P w K mg base CX0 3 "conditions_of" ["bits"] (sp_conditions_of K) :=
  ok_conditions_of T (go_bits_of T Xt) (go_Conditions_init T Xt) (fun vs H Q E h => by obtain ⟨_, e, _⟩ := h; rw [e] <;> rfl) pure_conditions_of
theorem go_conditions_by (T : Txt K mg) (Xt : Ex K) : CallG P w K mg base CX0 3 "conditions_by" ["word", "v", "c"] (sp_conditions_by K) :=
  ok_conditions_by T (go_Conditions_init T Xt) (fun vs H Q E h => by obtain ⟨_, _, _, e, _⟩ := h; rw [e] <;> rfl) pure_conditions_by
theorem go_total (T : Txt K mg) (Xt : Ex K) : CallG P w K mg base CX0 4 "total" ["a", "b", "more"] (sp_total K) :=
  ok_total T (go_conditions_by T Xt) (go_signed T Xt) (go_is_fit T Xt) (fun vs H Q E h => by obtain ⟨_, _, _, e, _⟩ := h; rw [e] <;> rfl) pure_total
theorem go_difference (T : Txt K mg) (Xt : Ex K) : CallG P w K mg base CX0 4 "difference" ["a", "b", "more"] (sp_difference K) :=
  ok_difference T (go_conditions_by T Xt) (go_signed T Xt) (go_is_fit T Xt) (fun vs H Q E h => by obtain ⟨_, _, _, e, _⟩ := h; rw [e] <;> rfl) pure_difference
theorem go_plain (T : Txt K mg) (Xt : Ex K) : CallG P w K mg base CX0 4 "plain" ["word"] (sp_plain K) :=
  ok_plain T (go_conditions_by T Xt) (fun vs H Q E h => by obtain ⟨_, e, _⟩ := h; rw [e] <;> rfl) pure_plain
theorem go_by_bits (T : Txt K mg) (Xt : Ex K) : CallG P w K mg base CX0 5 "by_bits" ["op", "a", "b"] (sp_by_bits K) :=
  ok_by_bits T (go_plain T Xt) (fun vs H Q E h => by obtain ⟨_, _, _, e, _⟩ := h; rw [e] <;> rfl) pure_by_bits
theorem go_product (T : Txt K mg) (Xt : Ex K) : CallG P w K mg base CX0 3 "product" ["a", "b", "with_signs"] (sp_product K) :=
  ok_product T (go_signed T Xt) (fun vs H Q E h => by obtain ⟨_, _, _, e, _⟩ := h; rw [e] <;> rfl) pure_product
theorem go_toward_nought (T : Txt K mg) (Xt : Ex K) : CallG P w K mg base CX0 1 "toward_nought" ["one", "other"] (sp_toward_nought K) :=
  ok_toward_nought T  (fun vs H Q E h => by obtain ⟨_, _, e, _⟩ := h; rw [e] <;> rfl) pure_toward_nought
theorem go_cut_off (T : Txt K mg) (Xt : Ex K) : CallG P w K mg base CX0 4 "cut_off" ["found", "least", "most"] (sp_cut_off K) :=
  ok_cut_off T (go_conditions_by T Xt) (fun vs H Q E h => by obtain ⟨_, _, _, e, _⟩ := h; rw [e] <;> rfl) pure_cut_off
theorem go_quotient (T : Txt K mg) (Xt : Ex K) : CallG P w K mg base (L2.CX P w) 5 "quotient" ["y", "a", "b", "with_signs"] (sp_quotient K) :=
  ok_quotient T (go_signed T Xt) (go_toward_nought T Xt) (go_cut_off T Xt) (ok_Trap T Xt) (fun vs H Q E h => by obtain ⟨_, _, _, _, e, _⟩ := h; rw [e] <;> rfl) pure_quotient
theorem go_tagged (T : Txt K mg) (Xt : Ex K) : CallG P w K mg base (L2.CX P w) 5 "tagged" ["op", "a", "b"] (sp_tagged K) :=
  ok_tagged T (go_conditions_by T Xt) (ok_Trap T Xt) (go_total T Xt) (go_difference T Xt) (fun vs H Q E h => by obtain ⟨_, _, _, e, _⟩ := h; rw [e] <;> rfl) (pure_tagged T)
theorem go_product_step (T : Txt K mg) (Xt : Ex K) : CallG P w K mg base CX0 5 "product_step" ["a", "b", "y", "conditions"] (sp_product_step K) :=
  ok_product_step T (go_total T Xt) (fun vs H Q E h => by obtain ⟨_, _, _, _, _, e, _⟩ := h; rw [e] <;> rfl) (pure_product_step T)
theorem go_shifted (T : Txt K mg) (Xt : Ex K) : CallG P w K mg base CX0 3 "shifted" ["op", "a", "b"] (sp_shifted K) :=
  ok_shifted T (go_signed T Xt) (go_bits_of T Xt) (fun vs H Q E h => by obtain ⟨_, _, _, e, _⟩ := h; rw [e] <;> rfl) pure_shifted
theorem go_simple (T : Txt K mg) (Xt : Ex K) : CallG P w K mg base (L2.CX P w) 6 "simple" ["op", "a", "b", "carry"] (sp_simple K) :=
  ok_simple T (go_by_bits T Xt) (ok_Trap T Xt) (go_difference T Xt) (go_total T Xt) (fun vs H Q E h => by obtain ⟨_, _, _, _, e, _⟩ := h; rw [e] <;> rfl) pure_simple
theorem go_Registers_row_of (T : Txt K mg) (Xt : Ex K) : MethG P w K mg base CX0 1 (He.ga K "Registers") "row_of" ["self", "k"] (sp_Registers_row_of K) :=
  ok_Registers_row_of T  (fun vs H Q E h => by obtain ⟨_, _, _, e, _⟩ := h; rw [e] <;> rfl) (pure_Registers_row_of T)
theorem go_Registers_place_of (T : Txt K mg) (Xt : Ex K) : MethG P w K mg base CX0 1 (He.ga K "Registers") "place_of" ["self", "k"] (sp_Registers_place_of K) :=
  ok_Registers_place_of T  (fun vs H Q E h => by obtain ⟨_, _, e, _⟩ := h; rw [e] <;> rfl) pure_Registers_place_of
theorem go_Registers_read (T : Txt K mg) (Xt : Ex K) : MethG P w K mg base CX0 2 (He.ga K "Registers") "read" ["self", "k"] (sp_Registers_read K) :=
  ok_Registers_read T (go_Registers_row_of T Xt) (go_Registers_place_of T Xt) (fun vs H Q E h => by obtain ⟨_, _, _, e, _⟩ := h; rw [e] <;> rfl) (pure_Registers_read T)
theorem go_Registers_write (T : Txt K mg) (Xt : Ex K) : MethG P w K mg base CX0 2 (He.ga K "Registers") "write" ["self", "k", "word"] (sp_Registers_write K) :=
  ok_Registers_write T (go_Registers_place_of T Xt) (go_Registers_row_of T Xt) (fun vs H Q E h => by obtain ⟨_, _, _, _, e, _⟩ := h; rw [e] <;> rfl) (pure_Registers_write T)
theorem go_Registers_set_window (T : Txt K mg) (Xt : Ex K) : MethG P w K mg base CX0 1 (He.ga K "Registers") "set_window" ["self", "window"] (sp_Registers_set_window K) :=
  ok_Registers_set_window T  (fun vs H Q E h => by obtain ⟨_, _, _, e, _⟩ := h; rw [e] <;> rfl) (pure_Registers_set_window T)
theorem go_Registers_set_mask (T : Txt K mg) (Xt : Ex K) : MethG P w K mg base CX0 1 (He.ga K "Registers") "set_mask" ["self", "mask"] (sp_Registers_set_mask K) :=
  ok_Registers_set_mask T  (fun vs H Q E h => by obtain ⟨_, _, _, e, _⟩ := h; rw [e] <;> rfl) (pure_Registers_set_mask T)
theorem go_Registers_is_barred (T : Txt K mg) (Xt : Ex K) : MethG P w K mg base CX0 1 (He.ga K "Registers") "is_barred" ["self", "window"] (sp_Registers_is_barred K) :=
  ok_Registers_is_barred T  (fun vs H Q E h => by obtain ⟨_, _, _, e, _⟩ := h; rw [e] <;> rfl) (pure_Registers_is_barred T)
theorem go_Registers_init (T : Txt K mg) (Xt : Ex K) : MakeG P w K mg base CX0 1 "Registers" (He.ga K "Registers") ["self"] (sp_Registers_init K) :=
  ok_Registers_init T  (fun vs H Q E h => by obtain ⟨_, _, e, _⟩ := h; rw [e] <;> rfl) (pure_Registers_init T)
theorem go_Machine_init (T : Txt K mg) (Xt : Ex K) : MakeG P w K mg base CX0 3 "Machine" (He.ga K "Machine") ["self"] (sp_Machine_init K) :=
  ok_Machine_init T (go_Conditions_init T Xt) (go_Registers_init T Xt) (fun vs H Q E h => by obtain ⟨_, _, e, _⟩ := h; rw [e] <;> rfl) (pure_Machine_init T)
theorem go_Machine_set_memory (T : Txt K mg) (Xt : Ex K) : MethG P w K mg base CX0 1 (He.ga K "Machine") "set_memory" ["self", "row"] (sp_Machine_set_memory K) :=
  ok_Machine_set_memory T  (fun vs H Q E h => by obtain ⟨_, _, _, _, e, _⟩ := h; rw [e] <;> rfl) (pure_Machine_set_memory T)
theorem go_Machine_set_y (T : Txt K mg) (Xt : Ex K) : MethG P w K mg base CX0 1 (He.ga K "Machine") "set_y" ["self", "word"] (sp_Machine_set_y K) :=
  ok_Machine_set_y T  (fun vs H Q E h => by obtain ⟨_, _, _, e, _⟩ := h; rw [e] <;> rfl) (pure_Machine_set_y T)
theorem go_Machine_set_conditions (T : Txt K mg) (Xt : Ex K) : MethG P w K mg base CX0 1 (He.ga K "Machine") "set_conditions" ["self", "conditions"] (sp_Machine_set_conditions K) :=
  ok_Machine_set_conditions T  (fun vs H Q E h => by obtain ⟨_, _, _, _, e, _⟩ := h; rw [e] <;> rfl) (pure_Machine_set_conditions T)
theorem go_Machine_set_places (T : Txt K mg) (Xt : Ex K) : MethG P w K mg base CX0 1 (He.ga K "Machine") "set_places" ["self", "place", "after"] (sp_Machine_set_places K) :=
  ok_Machine_set_places T  (fun vs H Q E h => by obtain ⟨_, _, _, _, e, _⟩ := h; rw [e] <;> rfl) (pure_Machine_set_places T)
theorem go_Machine_go_on (T : Txt K mg) (Xt : Ex K) : MethG P w K mg base CX0 2 (He.ga K "Machine") "go_on" ["self"] (sp_Machine_go_on K) :=
  ok_Machine_go_on T (go_Machine_set_places T Xt) (fun vs H Q E h => by obtain ⟨_, _, e, _⟩ := h; rw [e] <;> rfl) (pure_Machine_go_on T)
theorem go_Machine_jump (T : Txt K mg) (Xt : Ex K) : MethG P w K mg base CX0 2 (He.ga K "Machine") "jump" ["self", "place"] (sp_Machine_jump K) :=
  ok_Machine_jump T (go_Machine_set_places T Xt) (fun vs H Q E h => by obtain ⟨_, _, _, e, _⟩ := h; rw [e] <;> rfl) (pure_Machine_jump T)
theorem go_Machine_number_at (T : Txt K mg) (Xt : Ex K) : MethG P w K mg base CX0 1 (He.ga K "Machine") "number_at" ["self", "at", "many"] (sp_Machine_number_at K) :=
  ok_Machine_number_at T  (fun vs H Q E h => by obtain ⟨_, _, _, _, e, _⟩ := h; rw [e] <;> rfl) (pure_Machine_number_at T)
theorem go_Machine_put (T : Txt K mg) (Xt : Ex K) : MethG P w K mg base CX0 1 (He.ga K "Machine") "put" ["self", "at", "many", "number"] (sp_Machine_put K) :=
  ok_Machine_put T  (fun vs H Q E h => by obtain ⟨_, _, _, _, _, e, _⟩ := h; rw [e] <;> rfl) (pure_Machine_put T)
theorem go_Machine_second (T : Txt K mg) (Xt : Ex K) : MethG P w K mg base CX0 3 (He.ga K "Machine") "second" ["self", "ins"] (sp_Machine_second K) :=
  ok_Machine_second T (go_bits_of T Xt) (go_Registers_read T Xt) (go_part_signed T Xt) (fun vs H Q E h => by obtain ⟨_, _, _, e, _⟩ := h; rw [e] <;> rfl) (pure_Machine_second T)
theorem go_Machine_first (T : Txt K mg) (Xt : Ex K) : MethG P w K mg base CX0 3 (He.ga K "Machine") "first" ["self", "ins"] (sp_Machine_first K) :=
  ok_Machine_first T (go_bits_of T Xt) (go_Registers_read T Xt) (fun vs H Q E h => by obtain ⟨_, _, _, e, _⟩ := h; rw [e] <;> rfl) (pure_Machine_first T)
theorem go_Machine_give (T : Txt K mg) (Xt : Ex K) : MethG P w K mg base CX0 3 (He.ga K "Machine") "give" ["self", "ins", "word"] (sp_Machine_give K) :=
  ok_Machine_give T (go_Machine_go_on T Xt) (go_bits_of T Xt) (go_Registers_write T Xt) (fun vs H Q E h => by obtain ⟨_, _, _, _, e, _⟩ := h; rw [e] <;> rfl) (pure_Machine_give T)
theorem go_Machine_call (T : Txt K mg) (Xt : Ex K) : MethG P w K mg base CX0 3 (He.ga K "Machine") "call" ["self", "ins"] (sp_Machine_call K) :=
  ok_Machine_call T (go_bits_of T Xt) (go_Machine_jump T Xt) (go_Registers_write T Xt) (fun vs H Q E h => by obtain ⟨_, _, _, e, _⟩ := h; rw [e] <;> rfl) (pure_Machine_call T)
theorem go_Machine_branch (T : Txt K mg) (Xt : Ex K) : MethG P w K mg base CX0 3 (He.ga K "Machine") "branch" ["self", "ins"] (sp_Machine_branch K) :=
  ok_Machine_branch T (go_Conditions_holds T Xt) (go_Machine_set_places T Xt) (go_Machine_jump T Xt) (go_Machine_go_on T Xt) (go_bits_of T Xt) (go_part_signed T Xt) (fun vs H Q E h => by obtain ⟨_, _, _, e, _⟩ := h; rw [e] <;> rfl) (pure_Machine_branch T)
theorem go_Machine_short (T : Txt K mg) (Xt : Ex K) : MethG P w K mg base (L2.CX P w) 4 (He.ga K "Machine") "short" ["self", "ins"] (sp_Machine_short K) :=
  ok_Machine_short T (go_bits_of T Xt) (go_Machine_give T Xt) (go_Machine_branch T Xt) (ok_Trap T Xt) (fun vs H Q E h => by obtain ⟨_, _, _, e, _⟩ := h; rw [e] <;> rfl) (pure_Machine_short T)
theorem go_Machine_reckon (T : Txt K mg) (Xt : Ex K) : MethG P w K mg base (L2.CX P w) 7 (He.ga K "Machine") "reckon" ["self", "ins", "op"] (sp_Machine_reckon K) :=
  ok_Machine_reckon T (go_Machine_give T Xt) (go_Machine_set_conditions T Xt) (go_Machine_set_y T Xt) (go_plain T Xt) (go_product T Xt) (go_quotient T Xt) (go_simple T Xt) (go_Machine_second T Xt) (go_Machine_first T Xt) (fun vs H Q E h => by obtain ⟨_, _, _, e, _⟩ := h; rw [e] <;> rfl) (pure_Machine_reckon T)
theorem go_Machine_special (T : Txt K mg) (Xt : Ex K) : MethG P w K mg base (L2.CX P w) 6 (He.ga K "Machine") "special" ["self", "ins", "op"] (sp_Machine_special K) :=
  ok_Machine_special T (go_Machine_give T Xt) (go_Machine_set_conditions T Xt) (go_tagged T Xt) (go_Machine_set_y T Xt) (go_product_step T Xt) (go_shifted T Xt) (go_bits_of T Xt) (go_Machine_go_on T Xt) (ok_Trap T Xt) (go_Machine_second T Xt) (go_Machine_first T Xt) (fun vs H Q E h => by obtain ⟨_, _, _, e, _⟩ := h; rw [e] <;> rfl) (pure_Machine_special T)
theorem go_Machine_jump_away (T : Txt K mg) (Xt : Ex K) : MethG P w K mg base (L2.CX P w) 4 (He.ga K "Machine") "jump_away" ["self", "ins"] (sp_Machine_jump_away K) :=
  ok_Machine_jump_away T (go_Machine_jump T Xt) (go_bits_of T Xt) (go_Registers_write T Xt) (ok_Trap T Xt) (go_Machine_first T Xt) (go_Machine_second T Xt) (fun vs H Q E h => by obtain ⟨_, _, _, e, _⟩ := h; rw [e] <;> rfl) (pure_Machine_jump_away T)
theorem go_Machine_ask_trap (T : Txt K mg) (Xt : Ex K) : MethG P w K mg base (L2.CX P w) 4 (He.ga K "Machine") "ask_trap" ["self", "ins"] (sp_Machine_ask_trap K) :=
  ok_Machine_ask_trap T (go_Machine_go_on T Xt) (go_bits_of T Xt) (go_Conditions_holds T Xt) (go_Machine_first T Xt) (go_Machine_second T Xt) (ok_Trap T Xt) (fun vs H Q E h => by obtain ⟨_, _, _, e, _⟩ := h; rw [e] <;> rfl) (pure_Machine_ask_trap T)
theorem go_Machine_turn_window (T : Txt K mg) (Xt : Ex K) : MethG P w K mg base (L2.CX P w) 4 (He.ga K "Machine") "turn_window" ["self", "ins", "more", "trap"] (sp_Machine_turn_window K) :=
  ok_Machine_turn_window T (go_Machine_give T Xt) (go_Registers_set_window T Xt) (go_Machine_first T Xt) (go_Machine_second T Xt) (go_Registers_is_barred T Xt) (ok_Trap T Xt) (fun vs H Q E h => by obtain ⟨_, _, _, _, _, e, _⟩ := h; rw [e] <;> rfl) (pure_Machine_turn_window T)
theorem go_Machine_operate (T : Txt K mg) (Xt : Ex K) : MethG P w K mg base (L2.CX P w) 8 (He.ga K "Machine") "operate" ["self", "ins"] (sp_Machine_operate K) :=
  ok_Machine_operate T (go_Machine_reckon T Xt) (go_Machine_special T Xt) (go_Machine_jump_away T Xt) (go_Machine_ask_trap T Xt) (go_Machine_go_on T Xt) (go_Machine_turn_window T Xt) (ok_Trap T Xt) (go_bits_of T Xt) (fun vs H Q E h => by obtain ⟨_, _, _, e, _⟩ := h; rw [e] <;> rfl) (pure_Machine_operate T)
theorem go_Machine_place_for (T : Txt K mg) (Xt : Ex K) : MethG P w K mg base (L2.CX P w) 4 (He.ga K "Machine") "place_for" ["self", "ins", "size"] (sp_Machine_place_for K) :=
  ok_Machine_place_for T (ok_Trap T Xt) (go_Machine_first T Xt) (go_Machine_second T Xt) (fun vs H Q E h => by obtain ⟨_, _, _, _, e, _⟩ := h; rw [e] <;> rfl) (pure_Machine_place_for T)
theorem go_Machine_load (T : Txt K mg) (Xt : Ex K) : MethG P w K mg base CX0 2 (He.ga K "Machine") "load" ["self", "ins", "op", "at"] (sp_Machine_load K) :=
  ok_Machine_load T (go_part_signed T Xt) (go_Machine_number_at T Xt) Xt (fun vs H Q E h => by obtain ⟨_, _, _, _, _, _, e, _⟩ := h; rw [e] <;> rfl) (pure_Machine_load T)
theorem go_Machine_move (T : Txt K mg) (Xt : Ex K) : MethG P w K mg base (L2.CX P w) 5 (He.ga K "Machine") "move" ["self", "ins"] (sp_Machine_move K) :=
  ok_Machine_move T (go_Machine_go_on T Xt) (go_Machine_number_at T Xt) (go_Registers_write T Xt) (go_Machine_load T Xt) (go_Registers_read T Xt) (go_Machine_put T Xt) Xt (go_Machine_place_for T Xt) (ok_Trap T Xt) (go_bits_of T Xt) (fun vs H Q E h => by obtain ⟨_, _, _, e, _⟩ := h; rw [e] <;> rfl) (pure_Machine_move T)
theorem go_Machine_step (T : Txt K mg) (Xt : Ex K) : MethG P w K mg base (L2.CX P w) 9 (He.ga K "Machine") "step" ["self"] (sp_Machine_step K) :=
  ok_Machine_step T (go_Machine_short T Xt) (go_Machine_call T Xt) (go_Machine_operate T Xt) (go_Machine_move T Xt) (go_Machine_number_at T Xt) (ok_Trap T Xt) (fun vs H Q E h => by obtain ⟨_, _, e, _⟩ := h; rw [e] <;> rfl) (pure_Machine_step T)
theorem go_set_special (T : Txt K mg) (Xt : Ex K) : CallG P w K mg base CX0 4 "set_special" ["machine", "which", "value"] (sp_set_special K) :=
  ok_set_special T (go_Machine_set_y T Xt) (go_conditions_of T Xt) (go_Machine_set_conditions T Xt) (go_Machine_set_places T Xt) (go_Registers_set_window T Xt) (go_Registers_set_mask T Xt) (fun vs H Q E h => by obtain ⟨_, _, _, _, e, _⟩ := h; rw [e] <;> rfl) (pure_set_special T)
theorem go_set_one (T : Txt K mg) (Xt : Ex K) : CallG P w K mg base CX0 5 "set_one" ["machine", "which", "value"] (sp_set_one K) :=
  ok_set_one T (go_Registers_write T Xt) (go_set_special T Xt) (fun vs H Q E h => by obtain ⟨_, _, _, _, e, _⟩ := h; rw [e] <;> rfl) (pure_set_one T)
theorem go_get_one (T : Txt K mg) (Xt : Ex K) : CallG P w K mg base CX0 3 "get_one" ["machine", "which"] (sp_get_one K) :=
  ok_get_one T (go_Conditions_bits T Xt) (go_Registers_read T Xt) (fun vs H Q E h => by obtain ⟨_, _, _, e, _⟩ := h; rw [e] <;> rfl) (pure_get_one T)
theorem go_changes (T : Txt K mg) (Xt : Ex K) : CallG P w K mg base CX0 1 "changes" ["machine", "row"] (sp_changes K) :=
  ok_changes T  (fun vs H Q E h => by obtain ⟨_, _, _, _, e, _⟩ := h; rw [e] <;> rfl) (pure_changes T)
theorem go_steps_done (T : Txt K mg) (Xt : Ex K) : CallG P w K mg base CX0 10 "steps_done" ["machine", "steps"] (sp_steps_done K) :=
  ok_steps_done T Xt (go_Machine_step T Xt) (fun vs H Q E h => by obtain ⟨_, _, _, e, _⟩ := h; rw [e] <;> rfl) (pure_steps_done T)
theorem go_run (T : Txt K mg) (Xt : Ex K) : CallG P w K mg base CX0 11 "run" ["machine", "steps", "row"] (sp_run K) :=
  ok_run T (go_changes T Xt) (go_steps_done T Xt) (go_Machine_set_memory T Xt) (fun vs H Q E h => by obtain ⟨_, _, _, _, _, e, _⟩ := h; rw [e] <;> rfl) (pure_run T)
theorem go_answer (T : Txt K mg) (Xt : Ex K) : CallG P w K mg base CX0 12 "answer" ["machine", "number", "given", "row"] (sp_answer K) :=
  ok_answer T (go_run T Xt) (go_get_one T Xt) (go_set_one T Xt) (fun vs H Q E h => by obtain ⟨_, _, _, _, e, _⟩ := h; rw [e] <;> rfl) (pure_answer T)
theorem go_list_at (T : Txt K mg) (Xt : Ex K) : CallG P w K mg base CX0 1 "list_at" ["calls", "number", "at"] (sp_list_at K) :=
  ok_list_at T  (fun vs H Q E h => by obtain ⟨_, _, _, _, e, _⟩ := h; rw [e] <;> rfl) pure_list_at
theorem go_size_of_list (T : Txt K mg) (Xt : Ex K) : CallG P w K mg base CX0 1 "size_of_list" ["calls", "number", "at"] (sp_size_of_list K) :=
  ok_size_of_list T  (fun vs H Q E h => by obtain ⟨_, _, _, _, e, _⟩ := h; rw [e] <;> rfl) pure_size_of_list
theorem fn_answers (T : Txt K mg) (Xt : Ex K) : ∃ fd : FuncData, (∀ (s : Shared) (us : List Value), us.length = 1 → BindsTo s fd ⟨us, []⟩ ((["calls"] : List Str).zip us)) ∧ ∀ base : Heap, FnOk P w K mg base CX0 13 (He.ga K "answers") fd ["calls"] (sp_answers K) := by
  obtain ⟨fd, F⟩ := T.d_answers
  refine ⟨fd, fun s us h => F.bindsA (ps := ["calls"]) (fun _ _ _ _ _ _ us hl => match us, hl with | [_], _ => rfl) s us h, fun base => ?_⟩
  have G_size_of_list := go_size_of_list (P := P) (w := w) (base := base) T Xt
  have G_new_Machine := go_Machine_init (P := P) (w := w) (base := base) T Xt
  have G_answer := go_answer (P := P) (w := w) (base := base) T Xt
  have G_list_at := go_list_at (P := P) (w := w) (base := base) T Xt
  exact F.ok sc_answers (fun vs H Q E h => by obtain ⟨_, _, e, _⟩ := h; rw [e] <;> rfl) (fun cdv A outer s H vs Q E hr h => ⟨t_answers K E, PSs.nox (pss_cons (ps_set (i := 1) sc_answers.nd rfl (Or.inl rfl) (pk0 G_new_Machine (hr.mono (by decide)) pass0))
      (pss_cons (ps_set (i := 2) sc_answers.nd rfl (Or.inl rfl) (pe_lst pa_nil))
      (pss_cons (ps_set (i := 3) sc_answers.nd rfl (Or.inl rfl) pe_int)
      (pss_cons (ps_while PassesOwn.never (pt_cmpR op_lt (pv 3) (pe_callB call_len_seq (by rfl) T.f_len PySem.boot_len (by exact (pa_cons (pv 0) pa_nil))) (nomark _)) (pss_cons (ps_set (i := 4) sc_answers.nd rfl (Or.inl rfl) (pe_ix ix_list (pv 0) (pv 3) (fun _ _ => rfl)))
      (pss_cons (ps_set (i := 5) sc_answers.nd rfl (Or.inl rfl) (pe_op op_add (pe_op op_add (pv 3) pe_int) (pe_ix ix_tup (pe_glob rfl T.g_NUMBERS rfl) (pv 4) (fun _ _ => rfl))))
      (pss_cons (ps_set (i := 6) sc_answers.nd rfl (Or.inl rfl) (pc G_list_at (hr.mono (by decide)) pass0 (by exact (pa_cons (pv 0) (pa_cons (pv 4) (pa_cons (pv 5) pa_nil))))))
      (pss_cons (ps_if (pt_cmpR op_eq (pv 4) (pgi T.i_RESET) (nomark _)) (pss_cons (ps_set (i := 1) sc_answers.nd rfl (Or.inl rfl) (pk0 G_new_Machine (hr.mono (by decide)) pass0))
      (pss_one (ps_set (i := 7) sc_answers.nd rfl (Or.inl rfl) (pe_lst (pa_cons pe_int pa_nil))))) (pss_one (ps_set (i := 7) sc_answers.nd rfl (Or.inl rfl) (pc G_answer (hr.mono (by decide)) pass0 (by exact (pa_cons (pv 1) (pa_cons (pv 4) (pa_cons (pe_slice sl_list (pv 0) (po_some (pe_op op_add (pv 3) pe_int)) (po_some (pv 5))) (pa_cons (pv 6) pa_nil)))))))))
      (pss_cons (ps_expr (pe_bm PySem.F.plainAttrs_list PySem.F.slot_list_append PySem.F.type_list_append mt_append (pv 2) (pa_cons (pe_callB call_len_seq (by rfl) T.f_len PySem.boot_len (by exact (pa_cons (pv 7) pa_nil))) pa_nil)))
      (pss_cons (ps_expr (pe_bm PySem.F.plainAttrs_list PySem.F.slot_list_extend PySem.F.type_list_extend mt_extend (pv 2) (pa_cons (pv 7) pa_nil)))
      (pss_one (ps_set (i := 3) sc_answers.nd rfl (Or.inl rfl) (pe_op op_add (pv 5) (pc G_size_of_list (hr.mono (by decide)) pass0 (by exact (pa_cons (pv 0) (pa_cons (pv 4) (pa_cons (pv 5) pa_nil)))))))))))))))
      (pss_one (ps_ret (pv 2))))))), pure_answers T Xt vs H Q E h⟩)
end
/-! ### the row -/
theorem args_mean (K : PySem.W.Frag) (H : Hp) (xs : List V) (a : PySem.W.Codec.denoteAll R.args) (e2 : PySem.W.Codec.app R.args R.asked a = true) (hx : DwAll K H xs (PySem.W.Codec.encAll R.args a)) :
    sp_answers K xs H (fun v H' => Dw K H' v (R.ret.enc (PySem.W.Codec.app R.args R.f a))) fun _ _ _ => False := by
  cases hx with
  | cons h1 h2 =>
    cases h2
    cases h1 with
    | lst hs ha =>
      have e := L2.ints_dw a.1 _ ha
      subst e
      exact ⟨_, a.1, rfl, hs, e2, fun H' p hp => .lst (L2.SqL.of hp) (L2.dw_ints _)⟩
theorem call_holds (hwell : R.wellSaid = true) : PySem.W.WalkOS qv loose (PySem.W.XL qv []) hk.says R dA [] (fun f vs => PySem.call f vs) := by
  intro w s₀ s₁ mg mb G Y fa o pm cd doc dV kV ho hd hcd hD hmg hg args vals as hpre hlay hrd hwl hlo
  obtain ⟨a, e1, e2⟩ := PySem.W.os_pre_some hpre
  obtain ⟨e3, hwi⟩ := PySem.W.Codec.encAll_of_decAll R.args args a e1
  subst e3
  obtain ⟨K, KX, cS, cE⟩ := Y
  have T : Txt K mg := txt_of KX G.T.g cS
  have Xt : Ex K := ex_of cE T.k_Trap
  obtain ⟨fd, hb, hF⟩ := fn_answers (P := R.prog) (w := w) T Xt
  have efa : fa = He.ga K "answers" := by
    have h : mg "answers" = some (.ref fa) := hmg
    rw [T.g_answers] at h
    exact (Value.ref.inj (Option.some.inj h)).symm
  subst efa
  refine PySem.W.enter_call (codeAny_mono (spec_call (R := []) (cl := classAt s₀.heap) (d0 := R.ret.enc (PySem.W.Codec.app R.args R.f a)) (ps := ["calls"]) (sp := sp_answers K) KX G.T.g G.T.b G.T.builtins G.T.nolimit hg hwl (pl_encAll _ _) (layable_weight hlay) (k := 13) ⟨rfl, by decide, by decide⟩ (fun base _ _ => hF base) hb (by rw [encAll_len]; rfl)
    (fun H xs hO hS => args_mean K H xs a e2 hS) fun H e s' z => z) fun r' s' hq => ?_)
  obtain ⟨u, as', rfl, h1, h2, h3, h4⟩ := hq
  exact ⟨.inl ⟨u, _, as', rfl, fun _ => rfl, h1, (PySem.W.OpenSpec.post_iff hwell hwi _ _).mpr rfl, fun z => Bool.noConfusion (show false = true from z)⟩, h2, h3, h4⟩
end Wd
theorem PySem.Challenge.cw_windowstepsdesk_s01_answers_holds : PySem.Challenge.rw_windowstepsdesk_s01_answers.Holds := by
  have k1 : Wd.R.wellSaid = true := by decide +kernel
  exact Wd.row_of (Wd.call_holds k1) k1
