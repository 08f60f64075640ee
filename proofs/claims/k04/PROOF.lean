import PyProof.Rows.All
import Wide.All
import OpenK.AllK
import Wide.FinOn
import KE.KStateDown
import HandS.ForMost
import HandS.Exc
import HandS.ExcInit
import HandS.ExcField
import HandS.Defaults
import HandS.Head0
import HandS.Head1
import HandS.Head2
import HandS.HeadEnd
import HandS.HeadHook1
import HandS.HeadHook2
import HandS.HeadHook3
import PySem.Challenge.RW_weandthey_k04_whole_beginnings_of_texts
import HandS.Flow
import HandS.Style
import HandS.IsInst
import HandS.TupAny
import HandS.StrMore
import HandS.More
import HandS.Walk
import HandS.TryMany
import HandS.TryOnly
import HandS.WordsExc
import HandS.CallSlots
import HandS.Evl
import PyProof.NeKinds
import HandS.RaiseMore
import PyProof.ReprRoads
import HandS.Text
import HandS.Words
import KE.IntTextLaws
import HandS.Steps
import PyProof.Rows.StrCut
/-! text HdD -/
set_option Elab.async false
set_option linter.all false
set_option maxRecDepth 100000
set_option maxHeartbeats 0
/-! The head: what the top leaves, by one kernel run. Printed by gen_head.py -/
namespace K04
open PySem PySem.Spec PyProof.Rows L2
/-! ### the text by places -/
def top (i : Nat) : Stmt := PySem.Challenge.pw_weandthey_k04_whole_beginnings_of_texts.main.body.getD i (.Pass ⟨0, 0, 0, 0⟩)
abbrev s_is_whole : Stmt := top 22
abbrev s_is_name_programs : Stmt := top 23
abbrev s_is_expression : Stmt := top 25
abbrev s_is_rest : Stmt := top 26
abbrev s_is_test : Stmt := top 27
abbrev s_are_blocks : Stmt := top 28
abbrev s_is_statement : Stmt := top 29
abbrev s_blocks_of : Stmt := top 30
abbrev s_items_within : Stmt := top 31
abbrev s_rows_of : Stmt := top 32
abbrev s_order_error : Stmt := top 33
abbrev s_bare : Stmt := top 34
abbrev s_own_count : Stmt := top 35
abbrev s_counted : Stmt := top 36
abbrev s_weight : Stmt := top 37
abbrev s_program_error : Stmt := top 38
abbrev s_expression_text : Stmt := top 51
abbrev s_test_text : Stmt := top 52
abbrev s_line_text : Stmt := top 53
abbrev s_part_lines : Stmt := top 54
abbrev s_block_lines : Stmt := top 55
abbrev s_program_text : Stmt := top 56
abbrev s_is_name_texts : Stmt := top 57
abbrev s_integer_of : Stmt := top 59
abbrev s_sum_at : Stmt := top 60
abbrev s_expression_at : Stmt := top 61
abbrev s_expression_of : Stmt := top 62
abbrev s_rest_of : Stmt := top 63
abbrev s_plain_test_of : Stmt := top 64
abbrev s_test_of : Stmt := top 65
abbrev s_setting_of : Stmt := top 66
abbrev s_valued : Stmt := top 67
abbrev s_statement_of : Stmt := top 68
abbrev s_parse_program : Stmt := top 71
abbrev s__law_deck : Stmt := top 73
abbrev s__law_draw : Stmt := top 74
abbrev s__law_one : Stmt := top 75
abbrev s__law_expr : Stmt := top 76
abbrev s__law_test : Stmt := top 77
abbrev s__law_block : Stmt := top 78
abbrev s__law_fork : Stmt := top 79
abbrev s__law_statement : Stmt := top 80
abbrev s__law_program : Stmt := top 81
abbrev s__law_names : Stmt := top 82
abbrev s__law_parsed : Stmt := top 83
abbrev s__law_waits : Stmt := top 84
abbrev s_law : Stmt := top 85
abbrev s_BadText_init : Stmt := inClass (top 13) 0
abbrev s_BadProgram_init : Stmt := inClass (top 14) 0
abbrev s_Part_init : Stmt := inClass (top 69) 0
abbrev s_Part_lacks_line : Stmt := inClass (top 69) 1
abbrev s_ProgramReader_init : Stmt := inClass (top 70) 0
abbrev s_ProgramReader_close : Stmt := inClass (top 70) 1
abbrev s_ProgramReader_come_to : Stmt := inClass (top 70) 2
abbrev s_ProgramReader_lacks_line : Stmt := inClass (top 70) 3
abbrev s_ProgramReader_read : Stmt := inClass (top 70) 4
abbrev s_ProgramReader_put : Stmt := inClass (top 70) 5
/-! ### the facts -/
def d_is_whole : He.DefD := ⟨("is_whole", none), "is_whole", "is_whole", defArgs s_is_whole, defBody s_is_whole, defScope s_is_whole, [], []⟩
def d_is_name_programs : He.DefD := ⟨("is_name_programs", none), "is_name", "is_name", defArgs s_is_name_programs, defBody s_is_name_programs, defScope s_is_name_programs, [], []⟩
def d_is_expression : He.DefD := ⟨("is_expression", none), "is_expression", "is_expression", defArgs s_is_expression, defBody s_is_expression, defScope s_is_expression, [], []⟩
def d_is_rest : He.DefD := ⟨("is_rest", none), "is_rest", "is_rest", defArgs s_is_rest, defBody s_is_rest, defScope s_is_rest, [], []⟩
def d_is_test : He.DefD := ⟨("is_test", none), "is_test", "is_test", defArgs s_is_test, defBody s_is_test, defScope s_is_test, [], []⟩
def d_are_blocks : He.DefD := ⟨("are_blocks", none), "are_blocks", "are_blocks", defArgs s_are_blocks, defBody s_are_blocks, defScope s_are_blocks, [], []⟩
def d_is_statement : He.DefD := ⟨("is_statement", none), "is_statement", "is_statement", defArgs s_is_statement, defBody s_is_statement, defScope s_is_statement, [], []⟩
def d_blocks_of : He.DefD := ⟨("blocks_of", none), "blocks_of", "blocks_of", defArgs s_blocks_of, defBody s_blocks_of, defScope s_blocks_of, [], []⟩
def d_items_within : He.DefD := ⟨("items_within", none), "items_within", "items_within", defArgs s_items_within, defBody s_items_within, defScope s_items_within, [], []⟩
def d_rows_of : He.DefD := ⟨("rows_of", none), "rows_of", "rows_of", defArgs s_rows_of, defBody s_rows_of, defScope s_rows_of, [], []⟩
def d_order_error : He.DefD := ⟨("order_error", none), "order_error", "order_error", defArgs s_order_error, defBody s_order_error, defScope s_order_error, [], []⟩
def d_bare : He.DefD := ⟨("bare", none), "bare", "bare", defArgs s_bare, defBody s_bare, defScope s_bare, [], []⟩
def d_own_count : He.DefD := ⟨("own_count", none), "own_count", "own_count", defArgs s_own_count, defBody s_own_count, defScope s_own_count, [], []⟩
def d_counted : He.DefD := ⟨("counted", none), "counted", "counted", defArgs s_counted, defBody s_counted, defScope s_counted, [], []⟩
def d_weight : He.DefD := ⟨("weight", none), "weight", "weight", defArgs s_weight, defBody s_weight, defScope s_weight, [], []⟩
def d_program_error : He.DefD := ⟨("program_error", none), "program_error", "program_error", defArgs s_program_error, defBody s_program_error, defScope s_program_error, [], []⟩
def d_expression_text : He.DefD := ⟨("expression_text", none), "expression_text", "expression_text", defArgs s_expression_text, defBody s_expression_text, defScope s_expression_text, [], []⟩
def d_test_text : He.DefD := ⟨("test_text", none), "test_text", "test_text", defArgs s_test_text, defBody s_test_text, defScope s_test_text, [], []⟩
def d_line_text : He.DefD := ⟨("line_text", none), "line_text", "line_text", defArgs s_line_text, defBody s_line_text, defScope s_line_text, [], []⟩
def d_part_lines : He.DefD := ⟨("part_lines", none), "part_lines", "part_lines", defArgs s_part_lines, defBody s_part_lines, defScope s_part_lines, [], []⟩
def d_block_lines : He.DefD := ⟨("block_lines", none), "block_lines", "block_lines", defArgs s_block_lines, defBody s_block_lines, defScope s_block_lines, [], []⟩
def d_program_text : He.DefD := ⟨("program_text", none), "program_text", "program_text", defArgs s_program_text, defBody s_program_text, defScope s_program_text, [], []⟩
def d_is_name_texts : He.DefD := ⟨("is_name_texts", none), "is_name", "is_name", defArgs s_is_name_texts, defBody s_is_name_texts, defScope s_is_name_texts, [], []⟩
def d_integer_of : He.DefD := ⟨("integer_of", none), "integer_of", "integer_of", defArgs s_integer_of, defBody s_integer_of, defScope s_integer_of, [], []⟩
def d_sum_at : He.DefD := ⟨("sum_at", none), "sum_at", "sum_at", defArgs s_sum_at, defBody s_sum_at, defScope s_sum_at, [], []⟩
def d_expression_at : He.DefD := ⟨("expression_at", none), "expression_at", "expression_at", defArgs s_expression_at, defBody s_expression_at, defScope s_expression_at, [], []⟩
def d_expression_of : He.DefD := ⟨("expression_of", none), "expression_of", "expression_of", defArgs s_expression_of, defBody s_expression_of, defScope s_expression_of, [], []⟩
def d_rest_of : He.DefD := ⟨("rest_of", none), "rest_of", "rest_of", defArgs s_rest_of, defBody s_rest_of, defScope s_rest_of, [], []⟩
def d_plain_test_of : He.DefD := ⟨("plain_test_of", none), "plain_test_of", "plain_test_of", defArgs s_plain_test_of, defBody s_plain_test_of, defScope s_plain_test_of, [], []⟩
def d_test_of : He.DefD := ⟨("test_of", none), "test_of", "test_of", defArgs s_test_of, defBody s_test_of, defScope s_test_of, [], []⟩
def d_setting_of : He.DefD := ⟨("setting_of", none), "setting_of", "setting_of", defArgs s_setting_of, defBody s_setting_of, defScope s_setting_of, [], []⟩
def d_valued : He.DefD := ⟨("valued", none), "valued", "valued", defArgs s_valued, defBody s_valued, defScope s_valued, [], []⟩
def d_statement_of : He.DefD := ⟨("statement_of", none), "statement_of", "statement_of", defArgs s_statement_of, defBody s_statement_of, defScope s_statement_of, [], []⟩
def d_parse_program : He.DefD := ⟨("parse_program", none), "parse_program", "parse_program", defArgs s_parse_program, defBody s_parse_program, defScope s_parse_program, [], []⟩
def d__law_deck : He.DefD := ⟨("_law_deck", none), "_law_deck", "_law_deck", defArgs s__law_deck, defBody s__law_deck, defScope s__law_deck, [], []⟩
def d__law_draw : He.DefD := ⟨("_law_draw", none), "_law_draw", "_law_draw", defArgs s__law_draw, defBody s__law_draw, defScope s__law_draw, [], []⟩
def d__law_one : He.DefD := ⟨("_law_one", none), "_law_one", "_law_one", defArgs s__law_one, defBody s__law_one, defScope s__law_one, [], []⟩
def d__law_expr : He.DefD := ⟨("_law_expr", none), "_law_expr", "_law_expr", defArgs s__law_expr, defBody s__law_expr, defScope s__law_expr, [], []⟩
def d__law_test : He.DefD := ⟨("_law_test", none), "_law_test", "_law_test", defArgs s__law_test, defBody s__law_test, defScope s__law_test, [], []⟩
def d__law_block : He.DefD := ⟨("_law_block", none), "_law_block", "_law_block", defArgs s__law_block, defBody s__law_block, defScope s__law_block, [], []⟩
def d__law_fork : He.DefD := ⟨("_law_fork", none), "_law_fork", "_law_fork", defArgs s__law_fork, defBody s__law_fork, defScope s__law_fork, [], []⟩
def d__law_statement : He.DefD := ⟨("_law_statement", none), "_law_statement", "_law_statement", defArgs s__law_statement, defBody s__law_statement, defScope s__law_statement, [], []⟩
def d__law_program : He.DefD := ⟨("_law_program", none), "_law_program", "_law_program", defArgs s__law_program, defBody s__law_program, defScope s__law_program, [], []⟩
def d__law_names : He.DefD := ⟨("_law_names", none), "_law_names", "_law_names", defArgs s__law_names, defBody s__law_names, defScope s__law_names, [], []⟩
def d__law_parsed : He.DefD := ⟨("_law_parsed", none), "_law_parsed", "_law_parsed", defArgs s__law_parsed, defBody s__law_parsed, defScope s__law_parsed, [], []⟩
def d__law_waits : He.DefD := ⟨("_law_waits", none), "_law_waits", "_law_waits", defArgs s__law_waits, defBody s__law_waits, defScope s__law_waits, [], []⟩
def d_law : He.DefD := ⟨("law", none), "law", "law", defArgs s_law, defBody s_law, defScope s_law, [], []⟩
def d_BadText_init : He.DefD := ⟨("BadText", some "__init__"), "__init__", "BadText.__init__", defArgs s_BadText_init, defBody s_BadText_init, defScope s_BadText_init, [], []⟩
def d_BadProgram_init : He.DefD := ⟨("BadProgram", some "__init__"), "__init__", "BadProgram.__init__", defArgs s_BadProgram_init, defBody s_BadProgram_init, defScope s_BadProgram_init, [], []⟩
def d_Part_init : He.DefD := ⟨("Part", some "__init__"), "__init__", "Part.__init__", defArgs s_Part_init, defBody s_Part_init, defScope s_Part_init, [], []⟩
def d_Part_lacks_line : He.DefD := ⟨("Part", some "lacks_line"), "lacks_line", "Part.lacks_line", defArgs s_Part_lacks_line, defBody s_Part_lacks_line, defScope s_Part_lacks_line, [], []⟩
def d_ProgramReader_init : He.DefD := ⟨("ProgramReader", some "__init__"), "__init__", "ProgramReader.__init__", defArgs s_ProgramReader_init, defBody s_ProgramReader_init, defScope s_ProgramReader_init, [], []⟩
def d_ProgramReader_close : He.DefD := ⟨("ProgramReader", some "close"), "close", "ProgramReader.close", defArgs s_ProgramReader_close, defBody s_ProgramReader_close, defScope s_ProgramReader_close, [], []⟩
def d_ProgramReader_come_to : He.DefD := ⟨("ProgramReader", some "come_to"), "come_to", "ProgramReader.come_to", defArgs s_ProgramReader_come_to, defBody s_ProgramReader_come_to, defScope s_ProgramReader_come_to, [], []⟩
def d_ProgramReader_lacks_line : He.DefD := ⟨("ProgramReader", some "lacks_line"), "lacks_line", "ProgramReader.lacks_line", defArgs s_ProgramReader_lacks_line, defBody s_ProgramReader_lacks_line, defScope s_ProgramReader_lacks_line, [], []⟩
def d_ProgramReader_read : He.DefD := ⟨("ProgramReader", some "read"), "read", "ProgramReader.read", defArgs s_ProgramReader_read, defBody s_ProgramReader_read, defScope s_ProgramReader_read, [], []⟩
def d_ProgramReader_put : He.DefD := ⟨("ProgramReader", some "put"), "put", "ProgramReader.put", defArgs s_ProgramReader_put, defBody s_ProgramReader_put, defScope s_ProgramReader_put, [], []⟩
def fa : List He.Fa := [.glo "is_whole",
  .glo "is_name_programs",
  .glo "is_expression",
  .glo "is_rest",
  .glo "is_test",
  .glo "are_blocks",
  .glo "is_statement",
  .glo "blocks_of",
  .glo "items_within",
  .glo "rows_of",
  .glo "order_error",
  .glo "bare",
  .glo "own_count",
  .glo "counted",
  .glo "weight",
  .glo "program_error",
  .glo "expression_text",
  .glo "test_text",
  .glo "line_text",
  .glo "part_lines",
  .glo "block_lines",
  .glo "program_text",
  .glo "is_name_texts",
  .glo "integer_of",
  .glo "sum_at",
  .glo "expression_at",
  .glo "expression_of",
  .glo "rest_of",
  .glo "plain_test_of",
  .glo "test_of",
  .glo "setting_of",
  .glo "valued",
  .glo "statement_of",
  .glo "parse_program",
  .glo "_law_deck",
  .glo "_law_draw",
  .glo "_law_one",
  .glo "_law_expr",
  .glo "_law_test",
  .glo "_law_block",
  .glo "_law_fork",
  .glo "_law_statement",
  .glo "_law_program",
  .glo "_law_names",
  .glo "_law_parsed",
  .glo "_law_waits",
  .glo "law",
  .glo "PlayError",
  .glo "BadText",
  .glo "BadProgram",
  .glo "Part",
  .glo "ProgramReader",
  .glo "KEPT",
  .glo "CHOICES",
  .glo "KEPT_WORDS",
  .glo "HANDS",
  .glo "SIGNS_texts",
  .glo "WORDS",
  .free "isinstance",
  .free "bool",
  .free "int",
  .free "str",
  .free "tuple",
  .free "len",
  .free "sum",
  .free "enumerate",
  .free "divmod",
  .free "abs",
  .free "range",
  .free "repr",
  .int "MAX_NAME" 8,
  .int "MAX_TIMES" 8,
  .int "MAX_DEEP" 3,
  .int "MAX_NOTS" 2,
  .int "MAX_BY" 6,
  .int "MAX_PLACES" 24,
  .int "MAX_WEIGHT" 30,
  .int "MAX_CHOICES" 4,
  .int "MAX_RESTS" 2,
  .int "MAX_COMPARINGS" 2,
  .int "MAX_NEST" 3,
  .str "LETTERS_programs" "abcdefghijklmnopqrstuvwxyz",
  .str "SIGNS_programs" "abcdefghijklmnopqrstuvwxyz0123456789",
  .int "MOST_NUMBER" 99,
  .int "MOST_FACTOR" 9,
  .str "LETTERS_texts" "abcdefghijklmnopqrstuvwxyz",
  .str "FIGURES" "0123456789",
  .str "HEAD" "program",
  .str "STEP" "  ",
  .int "MOST_FIGURES" 20,
  .int "MOST_DEEP" 20,
  .int "MOST_NOTS" 20,
  .cls "Part",
  .mkr "Part",
  .cls "ProgramReader",
  .mkr "ProgramReader",
  .noat "Part" "kind",
  .noat "Part" "head",
  .noat "Part" "rows",
  .noat "Part" "is_over",
  .noat "ProgramReader" "blocks_open",
  .meth "Part" "lacks_line",
  .meth "ProgramReader" "close",
  .meth "ProgramReader" "come_to",
  .meth "ProgramReader" "lacks_line",
  .meth "ProgramReader" "read",
  .meth "ProgramReader" "put",
  .keep "PlayError",
  .keep "BadText",
  .keep "BadProgram",
  .keep "Part",
  .keep "ProgramReader",
  .exm "BadText" "BadText" true,
  .exm "BadProgram" "BadProgram" true]
def fn : List He.DefD := [d_is_whole, d_is_name_programs, d_is_expression, d_is_rest, d_is_test, d_are_blocks, d_is_statement, d_blocks_of, d_items_within, d_rows_of, d_order_error, d_bare, d_own_count, d_counted, d_weight, d_program_error, d_expression_text, d_test_text, d_line_text, d_part_lines, d_block_lines, d_program_text, d_is_name_texts, d_integer_of, d_sum_at, d_expression_at, d_expression_of, d_rest_of, d_plain_test_of, d_test_of, d_setting_of, d_valued, d_statement_of, d_parse_program, d__law_deck, d__law_draw, d__law_one, d__law_expr, d__law_test, d__law_block, d__law_fork, d__law_statement, d__law_program, d__law_names, d__law_parsed, d__law_waits, d_law, d_BadText_init, d_BadProgram_init, d_Part_init, d_Part_lacks_line, d_ProgramReader_init, d_ProgramReader_close, d_ProgramReader_come_to, d_ProgramReader_lacks_line, d_ProgramReader_read, d_ProgramReader_put]
def tabs : List He.Tab := [(fun K => He.ga K "SIGNS_texts", ["plus", "minus", "times"]), (fun K => He.ga K "WORDS", [" + ", " - ", " * "])]
def tup_KEPT : List He.Dv := [.str "set", .str "pay", .str "stop", .str "if", .str "else", .str "we", .str "they", .str "or", .str "repeat", .str "pass", .str "rest", .str "of", .str "not", .str "program"]
def tup_CHOICES : List He.Dv := [.str "we", .str "they"]
def tup_KEPT_WORDS : List He.Dv := [.str "set", .str "pay", .str "stop", .str "if", .str "else", .str "we", .str "they", .str "or", .str "repeat", .str "pass", .str "rest", .str "of", .str "not", .str "program"]
def tup_HANDS : List He.Dv := [.str "we", .str "they"]
/-- an own exception class over ValueError, its own __init__ (a def), no attribute of the name f -/
def oexB (K : PySem.W.Frag) (x f : Str) : Bool := match K.lookup (He.ga K x) with
  | some ⟨.type "type", _, .cls cd, sl⟩ => (match cd.mro, sl.toList with
    | .ref C :: bm, [_, _, _, _, some (.builtin n), _] => decide (C = He.ga K x) && (decide (n = "ValueError.__new__") && (!cd.hasDel && (cd.hasDict && (PySem.HandSPX.refsVE bm &&
        (He.eqO (PySem.W.findIn K (.ref (He.ga K x)) "__setattr__") (some (some (.builtin "object.__setattr__"))) && (decide (PySem.W.subIn K (.ref (He.ga K x)) (.type "BaseException") = some true) &&
        (decide (PySem.W.typeIn K (.ref (He.ga K x)) = some (.type "type")) && (PySem.W.keepIn K (.ref (He.ga K x)) && (xfB K (He.ga K x) && (He.eqO (PySem.W.findIn K (.ref (He.ga K x)) f) (some none) &&
        (He.eqO (PySem.W.findIn K (.ref (He.ga K x)) "__init__") (some (some (.ref (He.ma K (He.ga K x) "__init__")))) && decide (PySem.W.typeIn K (.ref (He.ma K (He.ga K x) "__init__")) = some (.type "function")))))))))))))
    | _, _ => false)
  | _ => false
/-- the class's __init__ is ValueError's own -/
def veiB (K : PySem.W.Frag) (x : Str) : Bool := match PySem.W.findCls K (.ref (He.ga K x)) (.type "type") "__init__" with
  | some (.val (.builtin n)) => decide (n = "ValueError.__init__") && (PySem.W.readsIn K (He.ga K x) (.type "type") && He.eqO (PySem.W.specialIn K (.ref (He.ga K x)) "__getattribute__") (some (some (.builtin "type.__getattribute__"))))
  | _ => false
def ex (K : PySem.W.Frag) : Bool := He.tupB K "KEPT" tup_KEPT && (He.tupB K "CHOICES" tup_CHOICES && (He.tupB K "KEPT_WORDS" tup_KEPT_WORDS && (He.tupB K "HANDS" tup_HANDS &&
  (He.valsB K (He.ga K "SIGNS_texts") [("plus", .str " + "), ("minus", .str " - "), ("times", .str " * ")] && (He.valsB K (He.ga K "WORDS") [(" + ", .str "plus"), (" - ", .str "minus"), (" * ", .str "times")] &&
  (oexB K "BadText" "line" && (oexB K "BadProgram" "error" && veiB K "PlayError")))))))
/-! ### the Hook -/
abbrev AlW : Type := He.AlT × Bool
def obsW (n : Nat) (g : Addr → Option Obj) : AlW := let K := He.frG g (cStatics :: He.asD g n); (He.obsT fa fn tabs K, ex K)
def hkW (n : Nat) : PySem.W.Hook where
  α := AlW
  obs := fun s => obsW n s.heap.get?
  val := fun w => (He.valT fn tabs w, true)
  says := fun w h => ∃ K : PySem.W.Frag, K.In h ∧ He.SaysT fa fn tabs w K ∧ ex K = true
  of := fun _ h e => ⟨He.frG h.heap.get? (cStatics :: He.asD h.heap.get? n), He.frG_in, congrArg Prod.fst e, congrArg Prod.snd e⟩
  keeps := fun _ _ _ ⟨K, hK, c⟩ k => ⟨K, PySem.W.Frag.In.keeps hK k, c⟩
abbrev R : PySem.W.OpenRow := PySem.W.OpenLaw.row PySem.Challenge.rw_weandthey_k04_whole_beginnings_of_texts
abbrev hk : PySem.W.Hook := hkW 5
def ob (s : PySem.W.SharedT) : AlW := obsW 5 (HandSHeadRun.getT s)
theorem ob_eq (s : PySem.W.SharedT) : ob s = hk.obs s.abs := by
  have e : HandSHeadRun.getT s = s.abs.heap.get? := funext (HandSHeadRun.getT_eq s)
  show obsW 5 (HandSHeadRun.getT s) = obsW 5 s.abs.heap.get?
  rw [e]
def loose0 : List Str := ["MAX_NAME", "MAX_TIMES", "MAX_DEEP", "MAX_NOTS", "MAX_BY", "MAX_PLACES", "MAX_WEIGHT", "MAX_CHOICES", "MAX_RESTS", "MAX_COMPARINGS", "MAX_NEST", "PlayError", "BadText", "BadProgram", "LETTERS_programs", "SIGNS_programs", "KEPT", "CHOICES", "MOST_NUMBER", "MOST_FACTOR"]
def loose1 : List Str := ["is_whole", "is_name", "is_name_programs", "is_expression", "is_rest", "is_test", "are_blocks", "is_statement", "blocks_of", "items_within", "rows_of", "order_error", "bare", "own_count", "counted", "weight", "program_error", "KEPT_WORDS", "LETTERS_texts", "FIGURES"]
def loose2 : List Str := ["HEAD", "STEP", "HANDS", "MOST_FIGURES", "MOST_DEEP", "MOST_NOTS", "SIGNS_texts", "WORDS", "expression_text", "test_text", "line_text", "part_lines", "block_lines", "program_text", "is_name_texts", "integer_of", "sum_at", "expression_at", "expression_of", "rest_of"]
def loose3 : List Str := ["plain_test_of", "test_of", "setting_of", "valued", "statement_of", "Part", "ProgramReader", "parse_program", "_law_deck", "_law_draw", "_law_one", "_law_expr", "_law_test", "_law_block", "_law_fork", "_law_statement", "_law_program", "_law_names", "_law_parsed", "_law_waits"]
def loose : List Str := loose0 ++ (loose1 ++ (loose2 ++ (loose3)))
end K04
/-! text HdR -/
set_option Elab.async false
set_option linter.all false
set_option maxRecDepth 100000
set_option maxHeartbeats 0
namespace K04
open PySem PySem.W PySem.Calls PyProof.Rows
/-- the top, run to its end, for both answers of the one row that it asks of the world -/
theorem run (w : World) : HandSHeadRun.RunEq R (PySem.W.view R.prog [85]) hk ob 6000 loose w :=
  byRow2 "special-get-raises" (P := fun w => HandSHeadRun.RunEq R (PySem.W.view R.prog [85]) hk ob 6000 loose w) (fun w os => by kernel_rfl) (fun w os => by kernel_rfl) w
end K04
/-! text B0 -/
set_option Elab.async false
set_option linter.all false
set_option maxRecDepth 100000
set_option maxHeartbeats 4000000
/-! What the head says, by names. Printed by gen_txt.py -/
namespace K04
open PySem PySem.Spec PyProof.Rows L2
/-- the written part, as the top leaves it -/
structure Txt (w : World) (K : PySem.W.Frag) (mg : Str → Option Value) : Prop where
  says : He.SaysT fa fn tabs w K
  more : ex K = true
  glo : ∃ h : Heap, K.In h ∧ h.Ns mainGlobals mg
section
variable {w : World} {K : PySem.W.Frag} {mg : Str → Option Value}
theorem Txt.fact (T : Txt w K mg) (i : Nat) {f : He.Fa} (h : fa[i]? = some f := by rfl) : f.ok K = true := T.says.d.fact i h
theorem Txt.g {x : Str} (T : Txt w K mg) (c : (He.Fa.glo x).ok K = true) : mg x = some (.ref (He.ga K x)) := by
  obtain ⟨h, X, G⟩ := T.glo
  exact He.glo_ok X G c
theorem Txt.free {x : Str} (T : Txt w K mg) (c : (He.Fa.free x).ok K = true) : mg x = none := by
  obtain ⟨h, X, G⟩ := T.glo
  exact He.free_ok X G c
theorem Txt.int {x : Str} {i : Int} (T : Txt w K mg) (c : (He.Fa.int x i).ok K = true) : ∃ t, mg x = some (.int i t) := by
  obtain ⟨h, X, G⟩ := T.glo
  exact He.int_ok X G c
theorem Txt.str {x z : Str} (T : Txt w K mg) (c : (He.Fa.str x z).ok K = true) : ∃ t, mg x = some (.str z t) := by
  obtain ⟨h, X, G⟩ := T.glo
  exact He.str_ok X G c
abbrev FnP (K : PySem.W.Frag) (d : He.DefD) (f : Addr) (fd : FuncData) : Prop := FunD K d.name d.qual d.params d.body d.scope [] [] f fd
theorem Txt.g_is_whole (T : Txt w K mg) : mg "is_whole" = some (.ref (He.ga K "is_whole")) := T.g (T.fact 0)
theorem Txt.g_is_name_programs (T : Txt w K mg) : mg "is_name_programs" = some (.ref (He.ga K "is_name_programs")) := T.g (T.fact 1)
theorem Txt.g_is_expression (T : Txt w K mg) : mg "is_expression" = some (.ref (He.ga K "is_expression")) := T.g (T.fact 2)
theorem Txt.g_is_rest (T : Txt w K mg) : mg "is_rest" = some (.ref (He.ga K "is_rest")) := T.g (T.fact 3)
theorem Txt.g_is_test (T : Txt w K mg) : mg "is_test" = some (.ref (He.ga K "is_test")) := T.g (T.fact 4)
theorem Txt.g_are_blocks (T : Txt w K mg) : mg "are_blocks" = some (.ref (He.ga K "are_blocks")) := T.g (T.fact 5)
theorem Txt.g_is_statement (T : Txt w K mg) : mg "is_statement" = some (.ref (He.ga K "is_statement")) := T.g (T.fact 6)
theorem Txt.g_blocks_of (T : Txt w K mg) : mg "blocks_of" = some (.ref (He.ga K "blocks_of")) := T.g (T.fact 7)
theorem Txt.g_items_within (T : Txt w K mg) : mg "items_within" = some (.ref (He.ga K "items_within")) := T.g (T.fact 8)
theorem Txt.g_rows_of (T : Txt w K mg) : mg "rows_of" = some (.ref (He.ga K "rows_of")) := T.g (T.fact 9)
theorem Txt.g_order_error (T : Txt w K mg) : mg "order_error" = some (.ref (He.ga K "order_error")) := T.g (T.fact 10)
theorem Txt.g_bare (T : Txt w K mg) : mg "bare" = some (.ref (He.ga K "bare")) := T.g (T.fact 11)
theorem Txt.g_own_count (T : Txt w K mg) : mg "own_count" = some (.ref (He.ga K "own_count")) := T.g (T.fact 12)
theorem Txt.g_counted (T : Txt w K mg) : mg "counted" = some (.ref (He.ga K "counted")) := T.g (T.fact 13)
theorem Txt.g_weight (T : Txt w K mg) : mg "weight" = some (.ref (He.ga K "weight")) := T.g (T.fact 14)
theorem Txt.g_program_error (T : Txt w K mg) : mg "program_error" = some (.ref (He.ga K "program_error")) := T.g (T.fact 15)
theorem Txt.g_expression_text (T : Txt w K mg) : mg "expression_text" = some (.ref (He.ga K "expression_text")) := T.g (T.fact 16)
theorem Txt.g_test_text (T : Txt w K mg) : mg "test_text" = some (.ref (He.ga K "test_text")) := T.g (T.fact 17)
theorem Txt.g_line_text (T : Txt w K mg) : mg "line_text" = some (.ref (He.ga K "line_text")) := T.g (T.fact 18)
theorem Txt.g_part_lines (T : Txt w K mg) : mg "part_lines" = some (.ref (He.ga K "part_lines")) := T.g (T.fact 19)
theorem Txt.g_block_lines (T : Txt w K mg) : mg "block_lines" = some (.ref (He.ga K "block_lines")) := T.g (T.fact 20)
theorem Txt.g_program_text (T : Txt w K mg) : mg "program_text" = some (.ref (He.ga K "program_text")) := T.g (T.fact 21)
theorem Txt.g_is_name_texts (T : Txt w K mg) : mg "is_name_texts" = some (.ref (He.ga K "is_name_texts")) := T.g (T.fact 22)
theorem Txt.g_integer_of (T : Txt w K mg) : mg "integer_of" = some (.ref (He.ga K "integer_of")) := T.g (T.fact 23)
theorem Txt.g_sum_at (T : Txt w K mg) : mg "sum_at" = some (.ref (He.ga K "sum_at")) := T.g (T.fact 24)
theorem Txt.g_expression_at (T : Txt w K mg) : mg "expression_at" = some (.ref (He.ga K "expression_at")) := T.g (T.fact 25)
theorem Txt.g_expression_of (T : Txt w K mg) : mg "expression_of" = some (.ref (He.ga K "expression_of")) := T.g (T.fact 26)
theorem Txt.g_rest_of (T : Txt w K mg) : mg "rest_of" = some (.ref (He.ga K "rest_of")) := T.g (T.fact 27)
theorem Txt.g_plain_test_of (T : Txt w K mg) : mg "plain_test_of" = some (.ref (He.ga K "plain_test_of")) := T.g (T.fact 28)
theorem Txt.g_test_of (T : Txt w K mg) : mg "test_of" = some (.ref (He.ga K "test_of")) := T.g (T.fact 29)
theorem Txt.g_setting_of (T : Txt w K mg) : mg "setting_of" = some (.ref (He.ga K "setting_of")) := T.g (T.fact 30)
theorem Txt.g_valued (T : Txt w K mg) : mg "valued" = some (.ref (He.ga K "valued")) := T.g (T.fact 31)
theorem Txt.g_statement_of (T : Txt w K mg) : mg "statement_of" = some (.ref (He.ga K "statement_of")) := T.g (T.fact 32)
theorem Txt.g_parse_program (T : Txt w K mg) : mg "parse_program" = some (.ref (He.ga K "parse_program")) := T.g (T.fact 33)
theorem Txt.g__law_deck (T : Txt w K mg) : mg "_law_deck" = some (.ref (He.ga K "_law_deck")) := T.g (T.fact 34)
theorem Txt.g__law_draw (T : Txt w K mg) : mg "_law_draw" = some (.ref (He.ga K "_law_draw")) := T.g (T.fact 35)
theorem Txt.g__law_one (T : Txt w K mg) : mg "_law_one" = some (.ref (He.ga K "_law_one")) := T.g (T.fact 36)
theorem Txt.g__law_expr (T : Txt w K mg) : mg "_law_expr" = some (.ref (He.ga K "_law_expr")) := T.g (T.fact 37)
theorem Txt.g__law_test (T : Txt w K mg) : mg "_law_test" = some (.ref (He.ga K "_law_test")) := T.g (T.fact 38)
theorem Txt.g__law_block (T : Txt w K mg) : mg "_law_block" = some (.ref (He.ga K "_law_block")) := T.g (T.fact 39)
theorem Txt.g__law_fork (T : Txt w K mg) : mg "_law_fork" = some (.ref (He.ga K "_law_fork")) := T.g (T.fact 40)
theorem Txt.g__law_statement (T : Txt w K mg) : mg "_law_statement" = some (.ref (He.ga K "_law_statement")) := T.g (T.fact 41)
theorem Txt.g__law_program (T : Txt w K mg) : mg "_law_program" = some (.ref (He.ga K "_law_program")) := T.g (T.fact 42)
theorem Txt.g__law_names (T : Txt w K mg) : mg "_law_names" = some (.ref (He.ga K "_law_names")) := T.g (T.fact 43)
theorem Txt.g__law_parsed (T : Txt w K mg) : mg "_law_parsed" = some (.ref (He.ga K "_law_parsed")) := T.g (T.fact 44)
theorem Txt.g__law_waits (T : Txt w K mg) : mg "_law_waits" = some (.ref (He.ga K "_law_waits")) := T.g (T.fact 45)
theorem Txt.g_law (T : Txt w K mg) : mg "law" = some (.ref (He.ga K "law")) := T.g (T.fact 46)
theorem Txt.g_PlayError (T : Txt w K mg) : mg "PlayError" = some (.ref (He.ga K "PlayError")) := T.g (T.fact 47)
theorem Txt.g_BadText (T : Txt w K mg) : mg "BadText" = some (.ref (He.ga K "BadText")) := T.g (T.fact 48)
theorem Txt.g_BadProgram (T : Txt w K mg) : mg "BadProgram" = some (.ref (He.ga K "BadProgram")) := T.g (T.fact 49)
theorem Txt.g_Part (T : Txt w K mg) : mg "Part" = some (.ref (He.ga K "Part")) := T.g (T.fact 50)
theorem Txt.g_ProgramReader (T : Txt w K mg) : mg "ProgramReader" = some (.ref (He.ga K "ProgramReader")) := T.g (T.fact 51)
theorem Txt.g_KEPT (T : Txt w K mg) : mg "KEPT" = some (.ref (He.ga K "KEPT")) := T.g (T.fact 52)
theorem Txt.g_CHOICES (T : Txt w K mg) : mg "CHOICES" = some (.ref (He.ga K "CHOICES")) := T.g (T.fact 53)
theorem Txt.g_KEPT_WORDS (T : Txt w K mg) : mg "KEPT_WORDS" = some (.ref (He.ga K "KEPT_WORDS")) := T.g (T.fact 54)
theorem Txt.g_HANDS (T : Txt w K mg) : mg "HANDS" = some (.ref (He.ga K "HANDS")) := T.g (T.fact 55)
theorem Txt.g_SIGNS_texts (T : Txt w K mg) : mg "SIGNS_texts" = some (.ref (He.ga K "SIGNS_texts")) := T.g (T.fact 56)
theorem Txt.g_WORDS (T : Txt w K mg) : mg "WORDS" = some (.ref (He.ga K "WORDS")) := T.g (T.fact 57)
theorem Txt.f_isinstance (T : Txt w K mg) : mg "isinstance" = none := T.free (T.fact 58)
theorem Txt.f_bool (T : Txt w K mg) : mg "bool" = none := T.free (T.fact 59)
theorem Txt.f_int (T : Txt w K mg) : mg "int" = none := T.free (T.fact 60)
theorem Txt.f_str (T : Txt w K mg) : mg "str" = none := T.free (T.fact 61)
theorem Txt.f_tuple (T : Txt w K mg) : mg "tuple" = none := T.free (T.fact 62)
theorem Txt.f_len (T : Txt w K mg) : mg "len" = none := T.free (T.fact 63)
theorem Txt.f_sum (T : Txt w K mg) : mg "sum" = none := T.free (T.fact 64)
theorem Txt.f_enumerate (T : Txt w K mg) : mg "enumerate" = none := T.free (T.fact 65)
theorem Txt.f_divmod (T : Txt w K mg) : mg "divmod" = none := T.free (T.fact 66)
theorem Txt.f_abs (T : Txt w K mg) : mg "abs" = none := T.free (T.fact 67)
theorem Txt.f_range (T : Txt w K mg) : mg "range" = none := T.free (T.fact 68)
theorem Txt.f_repr (T : Txt w K mg) : mg "repr" = none := T.free (T.fact 69)
theorem Txt.c_MAX_NAME (T : Txt w K mg) : ∃ t, mg "MAX_NAME" = some (.int 8 t) := T.int (T.fact 70)
theorem Txt.c_MAX_TIMES (T : Txt w K mg) : ∃ t, mg "MAX_TIMES" = some (.int 8 t) := T.int (T.fact 71)
theorem Txt.c_MAX_DEEP (T : Txt w K mg) : ∃ t, mg "MAX_DEEP" = some (.int 3 t) := T.int (T.fact 72)
theorem Txt.c_MAX_NOTS (T : Txt w K mg) : ∃ t, mg "MAX_NOTS" = some (.int 2 t) := T.int (T.fact 73)
theorem Txt.c_MAX_BY (T : Txt w K mg) : ∃ t, mg "MAX_BY" = some (.int 6 t) := T.int (T.fact 74)
theorem Txt.c_MAX_PLACES (T : Txt w K mg) : ∃ t, mg "MAX_PLACES" = some (.int 24 t) := T.int (T.fact 75)
theorem Txt.c_MAX_WEIGHT (T : Txt w K mg) : ∃ t, mg "MAX_WEIGHT" = some (.int 30 t) := T.int (T.fact 76)
theorem Txt.c_MAX_CHOICES (T : Txt w K mg) : ∃ t, mg "MAX_CHOICES" = some (.int 4 t) := T.int (T.fact 77)
theorem Txt.c_MAX_RESTS (T : Txt w K mg) : ∃ t, mg "MAX_RESTS" = some (.int 2 t) := T.int (T.fact 78)
theorem Txt.c_MAX_COMPARINGS (T : Txt w K mg) : ∃ t, mg "MAX_COMPARINGS" = some (.int 2 t) := T.int (T.fact 79)
theorem Txt.c_MAX_NEST (T : Txt w K mg) : ∃ t, mg "MAX_NEST" = some (.int 3 t) := T.int (T.fact 80)
theorem Txt.c_LETTERS_programs (T : Txt w K mg) : ∃ t, mg "LETTERS_programs" = some (.str "abcdefghijklmnopqrstuvwxyz" t) := T.str (T.fact 81)
theorem Txt.c_SIGNS_programs (T : Txt w K mg) : ∃ t, mg "SIGNS_programs" = some (.str "abcdefghijklmnopqrstuvwxyz0123456789" t) := T.str (T.fact 82)
theorem Txt.c_MOST_NUMBER (T : Txt w K mg) : ∃ t, mg "MOST_NUMBER" = some (.int 99 t) := T.int (T.fact 83)
theorem Txt.c_MOST_FACTOR (T : Txt w K mg) : ∃ t, mg "MOST_FACTOR" = some (.int 9 t) := T.int (T.fact 84)
theorem Txt.c_LETTERS_texts (T : Txt w K mg) : ∃ t, mg "LETTERS_texts" = some (.str "abcdefghijklmnopqrstuvwxyz" t) := T.str (T.fact 85)
theorem Txt.c_FIGURES (T : Txt w K mg) : ∃ t, mg "FIGURES" = some (.str "0123456789" t) := T.str (T.fact 86)
theorem Txt.c_HEAD (T : Txt w K mg) : ∃ t, mg "HEAD" = some (.str "program" t) := T.str (T.fact 87)
theorem Txt.c_STEP (T : Txt w K mg) : ∃ t, mg "STEP" = some (.str "  " t) := T.str (T.fact 88)
theorem Txt.c_MOST_FIGURES (T : Txt w K mg) : ∃ t, mg "MOST_FIGURES" = some (.int 20 t) := T.int (T.fact 89)
theorem Txt.c_MOST_DEEP (T : Txt w K mg) : ∃ t, mg "MOST_DEEP" = some (.int 20 t) := T.int (T.fact 90)
theorem Txt.c_MOST_NOTS (T : Txt w K mg) : ∃ t, mg "MOST_NOTS" = some (.int 20 t) := T.int (T.fact 91)
theorem Txt.d_is_whole (T : Txt w K mg) : ∃ fd, FnP K d_is_whole (He.fAd K ("is_whole", none)) fd := T.says.d.def_ 0
theorem Txt.d_is_name_programs (T : Txt w K mg) : ∃ fd, FnP K d_is_name_programs (He.fAd K ("is_name_programs", none)) fd := T.says.d.def_ 1
theorem Txt.d_is_expression (T : Txt w K mg) : ∃ fd, FnP K d_is_expression (He.fAd K ("is_expression", none)) fd := T.says.d.def_ 2
theorem Txt.d_is_rest (T : Txt w K mg) : ∃ fd, FnP K d_is_rest (He.fAd K ("is_rest", none)) fd := T.says.d.def_ 3
theorem Txt.d_is_test (T : Txt w K mg) : ∃ fd, FnP K d_is_test (He.fAd K ("is_test", none)) fd := T.says.d.def_ 4
theorem Txt.d_are_blocks (T : Txt w K mg) : ∃ fd, FnP K d_are_blocks (He.fAd K ("are_blocks", none)) fd := T.says.d.def_ 5
theorem Txt.d_is_statement (T : Txt w K mg) : ∃ fd, FnP K d_is_statement (He.fAd K ("is_statement", none)) fd := T.says.d.def_ 6
theorem Txt.d_blocks_of (T : Txt w K mg) : ∃ fd, FnP K d_blocks_of (He.fAd K ("blocks_of", none)) fd := T.says.d.def_ 7
theorem Txt.d_items_within (T : Txt w K mg) : ∃ fd, FnP K d_items_within (He.fAd K ("items_within", none)) fd := T.says.d.def_ 8
theorem Txt.d_rows_of (T : Txt w K mg) : ∃ fd, FnP K d_rows_of (He.fAd K ("rows_of", none)) fd := T.says.d.def_ 9
theorem Txt.d_order_error (T : Txt w K mg) : ∃ fd, FnP K d_order_error (He.fAd K ("order_error", none)) fd := T.says.d.def_ 10
theorem Txt.d_bare (T : Txt w K mg) : ∃ fd, FnP K d_bare (He.fAd K ("bare", none)) fd := T.says.d.def_ 11
theorem Txt.d_own_count (T : Txt w K mg) : ∃ fd, FnP K d_own_count (He.fAd K ("own_count", none)) fd := T.says.d.def_ 12
theorem Txt.d_counted (T : Txt w K mg) : ∃ fd, FnP K d_counted (He.fAd K ("counted", none)) fd := T.says.d.def_ 13
theorem Txt.d_weight (T : Txt w K mg) : ∃ fd, FnP K d_weight (He.fAd K ("weight", none)) fd := T.says.d.def_ 14
theorem Txt.d_program_error (T : Txt w K mg) : ∃ fd, FnP K d_program_error (He.fAd K ("program_error", none)) fd := T.says.d.def_ 15
theorem Txt.d_expression_text (T : Txt w K mg) : ∃ fd, FnP K d_expression_text (He.fAd K ("expression_text", none)) fd := T.says.d.def_ 16
theorem Txt.d_test_text (T : Txt w K mg) : ∃ fd, FnP K d_test_text (He.fAd K ("test_text", none)) fd := T.says.d.def_ 17
theorem Txt.d_line_text (T : Txt w K mg) : ∃ fd, FnP K d_line_text (He.fAd K ("line_text", none)) fd := T.says.d.def_ 18
theorem Txt.d_part_lines (T : Txt w K mg) : ∃ fd, FnP K d_part_lines (He.fAd K ("part_lines", none)) fd := T.says.d.def_ 19
theorem Txt.d_block_lines (T : Txt w K mg) : ∃ fd, FnP K d_block_lines (He.fAd K ("block_lines", none)) fd := T.says.d.def_ 20
theorem Txt.d_program_text (T : Txt w K mg) : ∃ fd, FnP K d_program_text (He.fAd K ("program_text", none)) fd := T.says.d.def_ 21
theorem Txt.d_is_name_texts (T : Txt w K mg) : ∃ fd, FnP K d_is_name_texts (He.fAd K ("is_name_texts", none)) fd := T.says.d.def_ 22
theorem Txt.d_integer_of (T : Txt w K mg) : ∃ fd, FnP K d_integer_of (He.fAd K ("integer_of", none)) fd := T.says.d.def_ 23
theorem Txt.d_sum_at (T : Txt w K mg) : ∃ fd, FnP K d_sum_at (He.fAd K ("sum_at", none)) fd := T.says.d.def_ 24
theorem Txt.d_expression_at (T : Txt w K mg) : ∃ fd, FnP K d_expression_at (He.fAd K ("expression_at", none)) fd := T.says.d.def_ 25
theorem Txt.d_expression_of (T : Txt w K mg) : ∃ fd, FnP K d_expression_of (He.fAd K ("expression_of", none)) fd := T.says.d.def_ 26
theorem Txt.d_rest_of (T : Txt w K mg) : ∃ fd, FnP K d_rest_of (He.fAd K ("rest_of", none)) fd := T.says.d.def_ 27
theorem Txt.d_plain_test_of (T : Txt w K mg) : ∃ fd, FnP K d_plain_test_of (He.fAd K ("plain_test_of", none)) fd := T.says.d.def_ 28
theorem Txt.d_test_of (T : Txt w K mg) : ∃ fd, FnP K d_test_of (He.fAd K ("test_of", none)) fd := T.says.d.def_ 29
theorem Txt.d_setting_of (T : Txt w K mg) : ∃ fd, FnP K d_setting_of (He.fAd K ("setting_of", none)) fd := T.says.d.def_ 30
theorem Txt.d_valued (T : Txt w K mg) : ∃ fd, FnP K d_valued (He.fAd K ("valued", none)) fd := T.says.d.def_ 31
theorem Txt.d_statement_of (T : Txt w K mg) : ∃ fd, FnP K d_statement_of (He.fAd K ("statement_of", none)) fd := T.says.d.def_ 32
theorem Txt.d_parse_program (T : Txt w K mg) : ∃ fd, FnP K d_parse_program (He.fAd K ("parse_program", none)) fd := T.says.d.def_ 33
theorem Txt.d__law_deck (T : Txt w K mg) : ∃ fd, FnP K d__law_deck (He.fAd K ("_law_deck", none)) fd := T.says.d.def_ 34
theorem Txt.d__law_draw (T : Txt w K mg) : ∃ fd, FnP K d__law_draw (He.fAd K ("_law_draw", none)) fd := T.says.d.def_ 35
theorem Txt.d__law_one (T : Txt w K mg) : ∃ fd, FnP K d__law_one (He.fAd K ("_law_one", none)) fd := T.says.d.def_ 36
theorem Txt.d__law_expr (T : Txt w K mg) : ∃ fd, FnP K d__law_expr (He.fAd K ("_law_expr", none)) fd := T.says.d.def_ 37
theorem Txt.d__law_test (T : Txt w K mg) : ∃ fd, FnP K d__law_test (He.fAd K ("_law_test", none)) fd := T.says.d.def_ 38
theorem Txt.d__law_block (T : Txt w K mg) : ∃ fd, FnP K d__law_block (He.fAd K ("_law_block", none)) fd := T.says.d.def_ 39
theorem Txt.d__law_fork (T : Txt w K mg) : ∃ fd, FnP K d__law_fork (He.fAd K ("_law_fork", none)) fd := T.says.d.def_ 40
theorem Txt.d__law_statement (T : Txt w K mg) : ∃ fd, FnP K d__law_statement (He.fAd K ("_law_statement", none)) fd := T.says.d.def_ 41
theorem Txt.d__law_program (T : Txt w K mg) : ∃ fd, FnP K d__law_program (He.fAd K ("_law_program", none)) fd := T.says.d.def_ 42
theorem Txt.d__law_names (T : Txt w K mg) : ∃ fd, FnP K d__law_names (He.fAd K ("_law_names", none)) fd := T.says.d.def_ 43
theorem Txt.d__law_parsed (T : Txt w K mg) : ∃ fd, FnP K d__law_parsed (He.fAd K ("_law_parsed", none)) fd := T.says.d.def_ 44
theorem Txt.d__law_waits (T : Txt w K mg) : ∃ fd, FnP K d__law_waits (He.fAd K ("_law_waits", none)) fd := T.says.d.def_ 45
theorem Txt.d_law (T : Txt w K mg) : ∃ fd, FnP K d_law (He.fAd K ("law", none)) fd := T.says.d.def_ 46
theorem Txt.d_BadText_init (T : Txt w K mg) : ∃ fd, FnP K d_BadText_init (He.fAd K ("BadText", some "__init__")) fd := T.says.d.def_ 47
theorem Txt.d_BadProgram_init (T : Txt w K mg) : ∃ fd, FnP K d_BadProgram_init (He.fAd K ("BadProgram", some "__init__")) fd := T.says.d.def_ 48
theorem Txt.d_Part_init (T : Txt w K mg) : ∃ fd, FnP K d_Part_init (He.fAd K ("Part", some "__init__")) fd := T.says.d.def_ 49
theorem Txt.d_Part_lacks_line (T : Txt w K mg) : ∃ fd, FnP K d_Part_lacks_line (He.fAd K ("Part", some "lacks_line")) fd := T.says.d.def_ 50
theorem Txt.d_ProgramReader_init (T : Txt w K mg) : ∃ fd, FnP K d_ProgramReader_init (He.fAd K ("ProgramReader", some "__init__")) fd := T.says.d.def_ 51
theorem Txt.d_ProgramReader_close (T : Txt w K mg) : ∃ fd, FnP K d_ProgramReader_close (He.fAd K ("ProgramReader", some "close")) fd := T.says.d.def_ 52
theorem Txt.d_ProgramReader_come_to (T : Txt w K mg) : ∃ fd, FnP K d_ProgramReader_come_to (He.fAd K ("ProgramReader", some "come_to")) fd := T.says.d.def_ 53
theorem Txt.d_ProgramReader_lacks_line (T : Txt w K mg) : ∃ fd, FnP K d_ProgramReader_lacks_line (He.fAd K ("ProgramReader", some "lacks_line")) fd := T.says.d.def_ 54
theorem Txt.d_ProgramReader_read (T : Txt w K mg) : ∃ fd, FnP K d_ProgramReader_read (He.fAd K ("ProgramReader", some "read")) fd := T.says.d.def_ 55
theorem Txt.d_ProgramReader_put (T : Txt w K mg) : ∃ fd, FnP K d_ProgramReader_put (He.fAd K ("ProgramReader", some "put")) fd := T.says.d.def_ 56
theorem Txt.cls_Part (T : Txt w K mg) : Cls K (He.ga K "Part") := He.cls_ok (T.fact 92)
theorem Txt.mk_Part (T : Txt w K mg) : Mk K (He.ga K "Part") (He.fAd K ("Part", some "__init__")) := He.mkr_ok (T.fact 93)
theorem Txt.cls_ProgramReader (T : Txt w K mg) : Cls K (He.ga K "ProgramReader") := He.cls_ok (T.fact 94)
theorem Txt.mk_ProgramReader (T : Txt w K mg) : Mk K (He.ga K "ProgramReader") (He.fAd K ("ProgramReader", some "__init__")) := He.mkr_ok (T.fact 95)
theorem Txt.na_Part_kind (T : Txt w K mg) : NoAttr K (He.ga K "Part") "kind" := He.noat_ok (T.fact 96)
theorem Txt.na_Part_head (T : Txt w K mg) : NoAttr K (He.ga K "Part") "head" := He.noat_ok (T.fact 97)
theorem Txt.na_Part_rows (T : Txt w K mg) : NoAttr K (He.ga K "Part") "rows" := He.noat_ok (T.fact 98)
theorem Txt.na_Part_is_over (T : Txt w K mg) : NoAttr K (He.ga K "Part") "is_over" := He.noat_ok (T.fact 99)
theorem Txt.na_ProgramReader_blocks_open (T : Txt w K mg) : NoAttr K (He.ga K "ProgramReader") "blocks_open" := He.noat_ok (T.fact 100)
theorem Txt.m_Part_lacks_line (T : Txt w K mg) : Meth K (He.ga K "Part") "lacks_line" (He.fAd K ("Part", some "lacks_line")) := He.meth_ok (T.fact 101)
theorem Txt.m_ProgramReader_close (T : Txt w K mg) : Meth K (He.ga K "ProgramReader") "close" (He.fAd K ("ProgramReader", some "close")) := He.meth_ok (T.fact 102)
theorem Txt.m_ProgramReader_come_to (T : Txt w K mg) : Meth K (He.ga K "ProgramReader") "come_to" (He.fAd K ("ProgramReader", some "come_to")) := He.meth_ok (T.fact 103)
theorem Txt.m_ProgramReader_lacks_line (T : Txt w K mg) : Meth K (He.ga K "ProgramReader") "lacks_line" (He.fAd K ("ProgramReader", some "lacks_line")) := He.meth_ok (T.fact 104)
theorem Txt.m_ProgramReader_read (T : Txt w K mg) : Meth K (He.ga K "ProgramReader") "read" (He.fAd K ("ProgramReader", some "read")) := He.meth_ok (T.fact 105)
theorem Txt.m_ProgramReader_put (T : Txt w K mg) : Meth K (He.ga K "ProgramReader") "put" (He.fAd K ("ProgramReader", some "put")) := He.meth_ok (T.fact 106)
theorem Txt.k_PlayError (T : Txt w K mg) : PySem.W.keepIn K (.ref (He.ga K "PlayError")) = true := He.keep_ok (T.fact 107)
theorem Txt.k_BadText (T : Txt w K mg) : PySem.W.keepIn K (.ref (He.ga K "BadText")) = true := He.keep_ok (T.fact 108)
theorem Txt.k_BadProgram (T : Txt w K mg) : PySem.W.keepIn K (.ref (He.ga K "BadProgram")) = true := He.keep_ok (T.fact 109)
theorem Txt.k_Part (T : Txt w K mg) : PySem.W.keepIn K (.ref (He.ga K "Part")) = true := He.keep_ok (T.fact 110)
theorem Txt.k_ProgramReader (T : Txt w K mg) : PySem.W.keepIn K (.ref (He.ga K "ProgramReader")) = true := He.keep_ok (T.fact 111)
theorem Txt.exm_BadText (T : Txt w K mg) : PySem.W.exmOne K (.ref (He.ga K "BadText")) (.ref (He.ga K "BadText")) = some true := He.exm_ok (T.fact 112)
theorem Txt.exm_BadProgram (T : Txt w K mg) : PySem.W.exmOne K (.ref (He.ga K "BadProgram")) (.ref (He.ga K "BadProgram")) = some true := He.exm_ok (T.fact 113)
theorem Txt.mores (T : Txt w K mg) : (He.tupB K "KEPT" tup_KEPT) = true ∧ (He.tupB K "CHOICES" tup_CHOICES) = true ∧ (He.tupB K "KEPT_WORDS" tup_KEPT_WORDS) = true ∧ (He.tupB K "HANDS" tup_HANDS) = true ∧ (He.valsB K (He.ga K "SIGNS_texts") [("plus", .str " + "), ("minus", .str " - "), ("times", .str " * ")]) = true ∧ (He.valsB K (He.ga K "WORDS") [(" + ", .str "plus"), (" - ", .str "minus"), (" * ", .str "times")]) = true ∧ (oexB K "BadText" "line") = true ∧ (oexB K "BadProgram" "error") = true ∧ (veiB K "PlayError") = true := by
  obtain ⟨a1, h⟩ := He.ba T.more
  obtain ⟨a2, h⟩ := He.ba h
  obtain ⟨a3, h⟩ := He.ba h
  obtain ⟨a4, h⟩ := He.ba h
  obtain ⟨a5, h⟩ := He.ba h
  obtain ⟨a6, h⟩ := He.ba h
  obtain ⟨a7, h⟩ := He.ba h
  obtain ⟨a8, a9⟩ := He.ba h
  exact ⟨a1, a2, a3, a4, a5, a6, a7, a8, a9⟩
theorem Txt.t_KEPT (T : Txt w K mg) (H : Hp) : SqT K H (He.ga K "KEPT") [.str "set", .str "pay", .str "stop", .str "if", .str "else", .str "we", .str "they", .str "or", .str "repeat", .str "pass", .str "rest", .str "of", .str "not", .str "program"] := He.tupB_ok T.mores.1 H
theorem Txt.t_CHOICES (T : Txt w K mg) (H : Hp) : SqT K H (He.ga K "CHOICES") [.str "we", .str "they"] := He.tupB_ok T.mores.2.1 H
theorem Txt.t_KEPT_WORDS (T : Txt w K mg) (H : Hp) : SqT K H (He.ga K "KEPT_WORDS") [.str "set", .str "pay", .str "stop", .str "if", .str "else", .str "we", .str "they", .str "or", .str "repeat", .str "pass", .str "rest", .str "of", .str "not", .str "program"] := He.tupB_ok T.mores.2.2.1 H
theorem Txt.t_HANDS (T : Txt w K mg) (H : Hp) : SqT K H (He.ga K "HANDS") [.str "we", .str "they"] := He.tupB_ok T.mores.2.2.2.1 H
theorem Txt.kd_SIGNS_texts (T : Txt w K mg) : ∃ es n, KDict K w (He.ga K "SIGNS_texts") es n := T.says.tab 0
theorem Txt.kd_WORDS (T : Txt w K mg) : ∃ es n, KDict K w (He.ga K "WORDS") es n := T.says.tab 1
end
end K04
/-! text Ru -/
set_option Elab.async false
set_option linter.all false
set_option maxRecDepth 100000
set_option maxHeartbeats 4000000
/-! Rules that the layer lacks: ==, != with an empty list or tuple; str of an int or a text; repr of data; WORDS.get; a class's __init__ named; two except clauses with a name -/
namespace K04
open PySem PySem.Spec PyProof.Rows L2
/-! ### a def that may be called by its module's name -/
def Cl (P : Program) (w : World) (K : PySem.W.Frag) (mg : Str → Option Value) (base : Heap) (CX : CXT) (k : Nat) (x : Str) (ps : List Str) (sp : Sp) : Prop :=
  ∃ (f : Addr) (fd : FuncData), mg x = some (.ref f) ∧ PySem.W.keepIn K (.ref f) = true ∧ Binds K fd ps [] ∧ FnOk P w K mg base CX k f fd ps sp
theorem Cl.imp {P : Program} {w : World} {K : PySem.W.Frag} {mg : Str → Option Value} {base : Heap} {CX : CXT} {k : Nat} {x : Str} {ps : List Str} {sp sp' : Sp} (G : Cl P w K mg base CX k x ps sp) (h : ∀ vs H Q E, sp' vs H Q E → sp vs H Q E) :
    Cl P w K mg base CX k x ps sp' := by
  obtain ⟨f, fd, a, b, c, F⟩ := G
  exact ⟨f, fd, a, b, c, F.imp h⟩
theorem Cl.up {P : Program} {w : World} {K : PySem.W.Frag} {mg : Str → Option Value} {base : Heap} {CX : CXT} {j k : Nat} {x : Str} {ps : List Str} {sp : Sp} (G : Cl P w K mg base CX j x ps sp) (h : j ≤ k) :
    Cl P w K mg base CX k x ps sp := by
  obtain ⟨f, fd, a, b, c, F⟩ := G
  exact ⟨f, fd, a, b, c, F.mono h⟩
section
variable {X : Cx} {k : Nat} {x : Str} {ps : List Str} {sp : Sp} {e : Expr} {es : List Expr} {t : TA} {p pos : Pos}
theorem pcl (G : Cl X.prog X.w X.K X.mg X.base CX0 k x ps sp) (hr : Room k X.A) (ha : PA X (e :: es) t) (hg : Gl X x := by rfl)
    (hdb : (x == ("__debug__" : Str)) = false := by decide) (he : starEach (e :: es) X.env = (false, eval e X.env) :: starEach es X.env := by rfl) (hpl : (backTo pos (starEach es X.env)).any (·.1) = false := by rfl) :
    PE X (.Call (.Name x p) (e :: es) [] pos) (tCall sp [] E0 t) := by
  obtain ⟨f, fd, hm, hk, hb, F⟩ := G
  exact pe_call F hr hg hm hk hb .nil pass0 ha hdb he hpl
end
/-! ### answers in short -/
theorem r_isi {K : PySem.W.Frag} {H : Hp} {x : V} {t n : String} {b : Bool} {Q : VK} (ty : TyX K H x (.type t)) (h : kitB t n = some b) (q : Q (.bl b) H) : rIsi K [x, .ty n] H Q :=
  ⟨x, .ty n, .type t, .type n, b, rfl, .ty n, ty, kit_ty h, q⟩
theorem sz {n : Nat} (h : n ≤ 100000) : n ≤ sizeLine := by rw [sizeLine_eq]; omega
theorem szl {n : Nat} (h : n ≤ 100000) : n < sizeLine := by rw [sizeLine_eq]; omega
/-! ### == and != with an empty list, an empty tuple -/
section
variable {X : Cx}
theorem isL_of {h : Heap} {a : Addr} {xs : Array Value} (p : PlainL h a xs) : h.IsList a xs := p.isList
def rEqN (K : PySem.W.Frag) : R2 := fun x y H Q => ∃ p q xs, x = .ref p ∧ y = .ref q ∧ ((SqL K H p xs ∧ SqL K H q []) ∨ (SqT K H p xs ∧ SqT K H q [])) ∧ Q (.bl xs.isEmpty) H
def rNeN (K : PySem.W.Frag) : R2 := fun x y H Q => ∃ p q xs, x = .ref p ∧ y = .ref q ∧ ((SqL K H p xs ∧ SqL K H q []) ∨ (SqT K H p xs ∧ SqT K H q [])) ∧ Q (.bl (!xs.isEmpty)) H
theorem op_eqN (hu : X.A.units < cLine) : OpR X (compareOp .Eq) (rEqN X.K) := by
  intro pins s σ H x y v u Q I rx ry h
  obtain ⟨p, q, xs, ex, ey, hh, k⟩ := h
  subst ex; subst ey
  obtain rfl : v = Value.ref p := rx
  obtain rfl : u = Value.ref q := ry
  rcases hh with ⟨h1, h2⟩ | ⟨h1, h2⟩
  · obtain ⟨its, r1, l1, _⟩ := I.list h1
    obtain ⟨its2, r2, l2, _⟩ := I.list h2
    have e2 := Vals.zero r2
    subst e2
    cases xs with
    | nil =>
      have e1 := Vals.zero r1
      subst e1
      exact SeqAt.eq_listAt (e := fun _ => true) l1.isList l2.isList rfl hu (fun j a _ => absurd a (Nat.not_lt_zero _)) (fin_bl I k rfl)
    | cons z zs =>
      refine SeqAt.eq_list_lengthsAt l1.isList l2.isList ?_ hu (fin_bl I k rfl)
      have l := r1.length
      rw [List.size_toArray, ← l]
      rfl
  · obtain ⟨its, r1, l1, _⟩ := I.tuple h1
    obtain ⟨its2, r2, l2, _⟩ := I.tuple h2
    have e2 := Vals.zero r2
    subst e2
    refine SeqAt.eq_tupleAt (e := fun _ => true) l1 l2 hu (fun j _ b => absurd b (Nat.not_lt_zero _)) ?_
    cases xs with
    | nil =>
      have e1 := Vals.zero r1
      subst e1
      exact (fin_bl I k rfl)
    | cons z zs =>
      cases r1 with
      | cons a b =>
        refine fin_bl I k ?_
        simp
theorem op_neN (hu : X.A.units < cLine) : OpR X (compareOp .NotEq) (rNeN X.K) := by
  intro pins s σ H x y v u Q I rx ry h
  obtain ⟨p, q, xs, ex, ey, hh, k⟩ := h
  subst ex; subst ey
  obtain rfl : v = Value.ref p := rx
  obtain rfl : u = Value.ref q := ry
  rcases hh with ⟨h1, h2⟩ | ⟨h1, h2⟩
  · obtain ⟨its, r1, l1, _⟩ := I.list h1
    obtain ⟨its2, r2, l2, _⟩ := I.list h2
    have e2 := Vals.zero r2
    subst e2
    cases xs with
    | nil =>
      have e1 := Vals.zero r1
      subst e1
      exact SeqAt.RcNeAt.lists (e := fun _ => true) l1.isList l2.isList rfl hu (fun j a _ => absurd a (Nat.not_lt_zero _)) _ _ _ _ (fin_bl I k rfl)
    | cons z zs =>
      refine SeqAt.RcNeAt.lists_lengths l1.isList l2.isList ?_ hu _ _ _ _ (fin_bl I k rfl)
      have l := r1.length
      rw [List.size_toArray, ← l]
      rfl
  · obtain ⟨its, r1, l1, _⟩ := I.tuple h1
    obtain ⟨its2, r2, l2, _⟩ := I.tuple h2
    have e2 := Vals.zero r2
    subst e2
    refine SeqAt.RcNeAt.tuples (e := fun _ => true) l1 l2 hu (fun j _ b => absurd b (Nat.not_lt_zero _)) _ _ _ _ ?_
    cases xs with
    | nil =>
      have e1 := Vals.zero r1
      subst e1
      exact (fin_bl I k rfl)
    | cons z zs =>
      cases r1 with
      | cons a b =>
        refine fin_bl I k ?_
        simp
/-! ### str(x) of an int or a text -/
def rStr : List V → Hp → VK → Prop := fun xs H Q => (∃ i, xs = [.int i] ∧ i.natAbs.log2 < 1920 ∧ Q (.str (toString i)) H) ∨ ∃ a, xs = [.str a] ∧ Q (.str a) H
theorem call_strX : CallR X (.type "str") rStr := CallR.or call_str_int SkE.call_str_str
/-- int(x) of an int, a truth value, a text -/
def rInt : List V → Hp → VK → Prop := fun xs H Q => ((∃ i, xs = [.int i] ∧ Q (.int i) H) ∨ ∃ k, xs = [.bl k] ∧ Q (.int (if k then 1 else 0)) H) ∨ ∃ a n, xs = [.str a] ∧ PySem.intText? a = some n ∧ a.length ≤ 640 ∧ Q (.int n) H
theorem call_intX : CallR X (.type "int") rInt := CallR.or call_int1 call_int_str
/-- len of a list, a tuple, a text -/
def rLen (K : PySem.W.Frag) : List V → Hp → VK → Prop := fun xs H Q => (∃ p ys, xs = [.ref p] ∧ (SqL K H p ys ∨ SqT K H p ys) ∧ Q (.int ys.length) H) ∨ ∃ z, xs = [.str z] ∧ z.length ≤ sizeLine ∧ Q (.int z.length) H
theorem call_lenX : CallR X (.builtin "len") (rLen X.K) := CallR.or call_len_seq call_len_str
/-! ### repr of data, where nothing is being shown -/
def rRepr (K : PySem.W.Frag) : List V → Hp → VK → Prop := fun xs H Q => ∃ a d, xs = [.ref a] ∧ Dp K H (.ref a) d ∧ d.showable = true ∧ d.hasDict = false ∧ d.depth ≤ 20 ∧ d.shown.length ≤ sizeLine ∧ Q (.str d.shown) H
theorem call_reprD (hg : X.A.guards = some []) (hu : X.A.units + 64 < cLine) : CallR X (.builtin "repr") (rRepr X.K) := by
  intro pins s σ H xs us Q I r h
  obtain ⟨a, d, rfl, hd, hs, hn, hdp, hz, k⟩ := h
  obtain ⟨u, rfl, ru⟩ := Vals.one r
  obtain rfl : u = Value.ref a := ru
  obtain ⟨as, rr⟩ := Dp.reads I d (.ref a) _ hd rfl
  refine repr_of_reads' rr hs (fun z => by rw [hn] at z; cases z) hg (by omega) (fun b o e => e) (fun h' t tk kp => ?_) hz
  exact ⟨.str d.shown, _, I.kept kp, ⟨_, rfl⟩, k⟩
end
/-! ### d.get(k, x) of a written dict -/
def tKGet (K : PySem.W.Frag) (w : World) (td tk tx : TE) : TE := fun σ H Q => td σ H fun x H1 => ∃ d, x = .ref d ∧ (∃ es n, KDict K w d es n) ∧ tk σ H1 fun y H2 => tx σ H2 fun z H3 =>
  ∃ kk r, y = .str kk ∧ PySem.W.nsIn K d kk = some r ∧ ((∃ u v, r = some u ∧ L2.RelV v u ∧ Q v H3) ∨ (r = none ∧ Q z H3))
section
variable {X : Cx} {o e f : Expr} {td tk tx : TE} {apos cpos : Pos}
theorem pe_kget (ho : PE X o td) (he : PE X e tk) (hf : PE X f tx) (m : M2 X o "get" apos e f cpos) : PE X (.Call (.Attribute o "get" apos) [e, f] [] cpos) (tKGet X.K X.w td tk tx) := by
  refine ⟨fun pins s0 σ0 H0 Qk I0 hh => ?_⟩
  refine wpAny_Call_method m.base m.few m.line PySem.F.plainAttrs_dict PySem.F.slot_dict_get PySem.F.type_dict_get (thn (ho.run pins s0 σ0 H0 _ I0 hh) fun uu sa qa => ?_)
  obtain ⟨xx, Ha, Ia, ra, dd, rfl, ⟨es, nn, kd⟩, qb⟩ := qa
  obtain rfl : uu = Value.ref dd := ra
  refine ⟨kd_type kd Ia, fun bb zz => ?_, ?_⟩
  · cases zz
    exact ⟨_, Ia.kIn _ _ kd.at_, rfl⟩
  rw [m.trees]
  refine Calls.callWith_builtin rfl (Calls.evalArgs_plain (Calls.spliced_cons (thn (he.run pins sa σ0 Ha _ Ia qb) fun iv sb qc => ?_)))
  obtain ⟨yy, Hb, Ib, rb, qd⟩ := qc
  refine Calls.spliced_cons (thn (hf.run pins sb σ0 Hb _ Ib qd) fun fv sc qe => Calls.spliced_nil ?_)
  obtain ⟨zz, Hc, Ic, rc, kk, rr, rfl, ns, qf⟩ := qe
  obtain ⟨tt, rfl⟩ := rb
  have mo := PySem.W.mapOf_K (prog := X.prog) (w := X.w) Ic.kIn kd.at_ kd.lit
  have fi := PySem.W.find_K kd.at_ ns
  refine call_meetsIn PySem.F.slot_dict_get (kd_type kd Ic) PySem.F.entry_dict_get (PySem.F.args_dict_get_3 _ _ _) (meets_dict_get_default (strKind X.prog X.w) dd (strKind_is X.prog X.w kk tt) kd.low fv) ⟨_, mo, ?_⟩
  show EP X pins σ0 Qk _ _
  rw [fi]
  rcases qf with ⟨u1, v1, e1, r1, q1⟩ | ⟨e1, q1⟩
  · subst e1
    exact ⟨v1, Hc, Ic.tok _, r1, q1⟩
  · subst e1
    exact ⟨zz, Hc, Ic.tok _, rc, q1⟩
end
/-! ### C.__init__(self, ..), C an own exception class without an __init__ of its own -/
section
variable {X : Cx} {e : Expr} {es : List Expr} {ta : TA} {p1 p2 pos : Pos} {x : Str} {C : Addr}
theorem pe_oinit {pl : Sem Bool} (hg : Gl X x) (hm : X.mg x = some (.ref C)) (hv : PySem.W.findCls X.K (.ref C) (.type "type") "__init__" = some (.val (.builtin "ValueError.__init__"))) (ht : PySem.W.readsIn X.K C (.type "type") = true)
    (hq : PySem.W.specialIn X.K (.ref C) "__getattribute__" = some (some (.builtin "type.__getattribute__"))) (ha : PA X (e :: es) ta)
    (hc : eval (.Call (.Attribute (.Name x p1) "__init__" p2) (e :: es) [] pos) X.env = (do
      let cv ← eval (.Name x p1) X.env
      standAt p2.atName
      let (fn, fst) ← holding [cv] (getMethod cv "__init__" pl)
      callWith pos fn fst (backTo pos (starEach (e :: es) X.env)) (backToKw pos (keywordEach [] X.env))) := by rfl)
    (he : starEach (e :: es) X.env = (false, eval e X.env) :: starEach es X.env := by rfl) (hpl : (backTo pos (starEach es X.env)).any (·.1) = false := by rfl) (hdb : (x == ("__debug__" : Str)) = false := by decide) :
    PE X (.Call (.Attribute (.Name x p1) "__init__" p2) (e :: es) [] pos) (tVeI X.K ta) := by
  refine ⟨fun pins s0 σ0 H0 Qk I0 hh => ?_⟩
  refine PySem.W.methodCall_KW (ld_glob I0 hg hm ?_ hdb) hc
  refine PySem.W.method_cls I0.kIn hq (PySem.W.cls_value I0.kIn ht hv (by decide +kernel) ?_)
  refine PyProof.Rows.callWith_method1 (thn (ha.run pos pins _ σ0 H0 _ (I0.tok _) hh) fun us sa qa => ?_) he hpl
  obtain ⟨vs, Ha, Ia, ra, ad, CC, wl, rfl, hl, TT, ea, qb⟩ := qa
  cases ra with
  | @cons _ u0 _ ur r0 r1 =>
    obtain rfl : u0 = Value.ref ad := r0
    have hlen : ur.length ≤ sizeLine := by
      have l1 := Paired.length r1
      rw [sizeLine_eq]
      omega
    exact oinit_ok TT Ia ea hlen fun sb Jb => ⟨.non, Ha, Jb, rfl, qb⟩
end
/-! ### try: body, except x as n: suite, and further clauses that are never asked -/
/-- the body's exception is the first clause's -/
def wFirst (K : PySem.W.Frag) (c : Value) (i : Nat) (ts : Addr → Value → Option Addr → TS) (D : Ends) : WX := fun cls dd σ H =>
  PySem.W.exmOne K cls c = some true ∧ ∀ a, H a = none → ts a cls dd
    { nx := fun τ G => D.nx (τ.set i none) G, rt := D.rt, bk := fun τ G => D.bk (τ.set i none) G, ct := fun τ G => D.ct (τ.set i none) G } (σ.set i (some (.ref a))) H
theorem notFrame {B hp : Heap} {ev : Env} {ol : List Env} {a : Addr} {ob : Obj} {fv : Array Value} (ff : hp.FunFrames B (ev :: ol)) (e1 : hp.get? a = some ob) (e2 : ob.data = .fields fv) : a ∉ frs (ev :: ol) := fun mm => by
  obtain ⟨_, ob2, e3, nf⟩ := ff.mem mm
  have e4 := e1.symm.trans e3
  cases e4
  exact nf _ e2
section
variable {X : Cx} {x n : Str} {c : Value} {i : Nat} {body suite : List Stmt} {b0 : Stmt} {np pos pos1 : Pos} {more : List ExceptHandler} {tb : WX → TS} {ts : Addr → Value → Option Addr → TS}
theorem ps_try_first (hs : X.stack = X.env :: X.outer) (hf : X.env.frame = some X.env.locals) (hN : X.N.Nodup) (hi : X.N[i]? = some n) (hln : X.env.kindOf n = some .local) (hc : Names X x c)
    (hb : ∀ (W1 : WX) (pl : List (Addr × Obj)) (x1 : Value → Shared → Prop), Takes (X.tr pl x1) W1 → PassesOwn (model X.prog X.w) X.A X.env x1 → PSs (X.tr pl x1) body (tb W1))
    (hsu : ∀ (a : Addr) (ob : Obj) (cls : Value) (dd : Option Addr) (pl : List (Addr × Obj)), Zc cls dd ob → (∃ fv, ob.data = .fields fv) → PSs (X.suite a ((a, ob) :: pl)) (b0 :: suite) (ts a cls dd)) :
    PS X (.Try body (.ExceptHandler (some (.Name x np)) (some n) (b0 :: suite) pos1 :: more) [] [] pos) (fun D σ H => tb (wFirst X.K c i ts D) D σ H) := by
  refine ⟨fun pins s0 σ0 H0 D I0 hh => ?_⟩
  have okX := I0.ok
  have frX : X.A.frames = some (X.env :: X.outer) := okX.frames.trans (congrArg some hs)
  refine wpAny_Try_except ?_
  refine wpAny_mono ((hb (wFirst X.K c i ts D) (X.pn ++ pins) (fun ev sa => wpAny (model X.prog X.w) X.A (noteFrame ev X.env) (fun _ sb => wpAny (model X.prog X.w) X.A (setFlight ev none)
    (fun _ sc => wpAny (model X.prog X.w) X.A (handleBy ev X.env (.ExceptHandler (some (.Name x np)) (some n) (b0 :: suite) pos1 :: more)) (SP X pins D) X.xe sc) X.xe sb) X.xe sa)
    (fun uu sx hx => ?grab) PassesOwn.looking).run [] s0 σ0 H0 D (I0.toTry _) hh) (fun fl s1 hq => ?done) (fun ev s1 z => z)
  case grab =>
    obtain ⟨a, B, sI, pl, τ, G, cls, dd, rfl, Jt, nb, up0, sky0, na, os0, ag0, ex0, yes⟩ := hx
    have J0 : Inv X pins τ G sI := Jt.ofTry okX
    rw [hs] at sky0
    show wpAny (model X.prog X.w) X.A (noteFrame (.ref a) X.env) _ _ _
    refine Sky.land Zc.steady frX hf sky0 fun h1 fl1 up1 => ?_
    have J1 : Inv X pins τ G { sx with heap := h1 } := J0.landed nb fl1.1 (up0.trans up1) os0 ag0
    obtain ⟨o1, v1, e1, z1, d1⟩ := fl1.there
    have nf1 := notFrame fl1.2.2.1 e1 d1
    have nl : a ≠ X.env.locals := fun z => nf1 (List.mem_filterMap.mpr ⟨X.env, List.mem_cons_self, hf.trans (congrArg some z.symm)⟩)
    have nfs : a ∉ X.fs := fun mm => by
      obtain ⟨ev, h2, h3⟩ := List.mem_filterMap.mp mm
      exact nf1 (List.mem_filterMap.mpr ⟨ev, List.mem_cons_of_mem _ h2, h3⟩)
    have U1 := J1.suite e1 d1 na nl nfs
    refine wpAny_handleBy_cons (codeAny_handlers_test ?_) (fun z => by cases z)
    have ty1 : PySem.W.Looks (model X.prog X.w) h1 (typeOf (.ref a)) cls := fun A1 Q1 E1 s1 k1 q1 => wpAny_typeOf_ref (k1 _ _ e1) (z1.1.symm ▸ q1)
    have lm := PySem.W.exm_one (M := model X.prog X.w) J1.kIn ty1 ex0
    have nameIs : ∀ {Q1 : Value → Shared → Prop} {E1 : Value → Shared → Prop}, Q1 c { sx with heap := h1 } →
        wpAny (model X.prog X.w) (X.A.mark (some (.ref a))) (eval (.Name x np) X.env) Q1 E1 { sx with heap := h1 } := fun {Q1 E1} q1 => by
      rcases hc with ⟨g1, g2, g3 | ⟨g3, g4, g5⟩⟩
      · exact ld_glob (X := X.suite a ((a, o1) :: (X.pn ++ pins))) U1 g1 g3 q1 g2
      · exact ld_blt (X := X.suite a ((a, o1) :: (X.pn ++ pins))) U1 g1 g3 g4 q1 g5 g2
    refine nameIs (lm.here ?_)
    refine codeAny_handlers_suite_as ?_
    refine HandSPX.lands_againZ fl1 fun h2 fl2 up2 => ?_
    have J2 : Inv X pins τ G { sx with heap := h2 } := J0.landed nb fl2.1 ((up0.trans up1).trans up2) os0 ag0
    obtain ⟨o2, v2, e2, z2, d2⟩ := fl2.there
    have U2 := J2.suite e2 d2 na nl nfs
    refine store_ok (X := X.suite a ((a, o2) :: (X.pn ++ pins))) (v := .ref a) U2 hN hi (.inl hln) rfl (fun s3 U3 => ?_) (.inr hln)
    refine wpAny_mono ((hsu a o2 cls dd (X.pn ++ pins) z2 ⟨_, d2⟩).run [] s3 _ G _ U3 (yes a na)) (fun fl s4 hq => ?_) (fun _ _ z => False.elim z)
    have leave : ∀ {τ4 : L2.St} {G4 : Hp} {R4 : Shared → Prop}, Inv (X.suite a ((a, o2) :: (X.pn ++ pins))) [] τ4 G4 s4 → (∀ s5, Inv X pins (τ4.set i none) G4 s5 → R4 s5) →
        wpAny (model X.prog X.w) X.A (do bindName X.env n .none; unbindBehindTheSuite X.env n pos1) (fun _ s5 => R4 s5) X.xe s4 := fun {τ4 G4 R4} U4 hr => gone_ok (U4.unsuite okX) hN hi hln hr
    cases fl with
    | ret u4 =>
      obtain ⟨w4, τ4, G4, U4, r4, q4⟩ := hq
      exact leave U4 fun s5 J5 => ⟨_, _, _, J5, r4, q4⟩
    | next =>
      obtain ⟨τ4, G4, U4, q4⟩ := hq
      exact leave U4 fun s5 J5 => ⟨_, _, J5, q4⟩
    | brk =>
      obtain ⟨τ4, G4, U4, q4⟩ := hq
      exact leave U4 fun s5 J5 => ⟨_, _, J5, q4⟩
    | cont =>
      obtain ⟨τ4, G4, U4, q4⟩ := hq
      exact leave U4 fun s5 J5 => ⟨_, _, J5, q4⟩
  case done =>
    cases fl with
    | ret u1 =>
      obtain ⟨w1, τ1, G1, J1, r1, q1⟩ := hq
      exact ⟨w1, τ1, G1, J1.ofTry okX, r1, q1⟩
    | next =>
      obtain ⟨τ1, G1, J1, q1⟩ := hq
      exact wpAny_execs_nil ⟨τ1, G1, J1.ofTry okX, q1⟩
    | brk =>
      obtain ⟨τ1, G1, J1, q1⟩ := hq
      exact ⟨τ1, G1, J1.ofTry okX, q1⟩
    | cont =>
      obtain ⟨τ1, G1, J1, q1⟩ := hq
      exact ⟨τ1, G1, J1.ofTry okX, q1⟩
end
end K04
/-! text Rd0 -/
set_option Elab.async false
set_option linter.all false
set_option maxRecDepth 100000
set_option maxHeartbeats 4000000
/-! Steps of readings: one lemma a form, taken by the form of the goal alone -/
namespace K04
open PySem PySem.Spec PyProof.Rows L2
section
variable {K : PySem.W.Frag} {w : World} {σ : L2.St} {H : Hp} {Q : VK} {Qb : Bool → Hp → Prop} {Qs : List V → Hp → Prop} {Qo : Option Int → Hp → Prop} {R : L2.St → Hp → Prop} {D : Ends} {v x y : V} {i j k n : Nat} {a b : Int} {te ta tb tc : TE} {tt tu tw : TT} {ts tz : TS} {tas tr : TA} {g : TG} {gs : TGs} {r r' : R2} {dvs vs : List V} {E : XK} {sp : Sp} {to tl th : TO}
theorem i_var (h : σ[i]? = some (some v)) (q : Q v H) : tVar i σ H Q := ⟨v, h, q⟩
theorem i_c (q : Q v H) : tC v σ H Q := q
theorem i_seq (q : ts { D with nx := tz D } σ H) : tSeq ts tz D σ H := q
theorem i_next (q : D.nx σ H) : tNext D σ H := q
theorem i_ret (q : te σ H D.rt) : tRet te D σ H := q
theorem i_retN (q : D.rt .non H) : tRetN D σ H := q
theorem i_drop (q : te σ H fun _ H1 => D.nx σ H1) : tDrop te D σ H := q
theorem i_asg (q : te σ H fun x H1 => g x σ H1 D.nx) : tAsg te g D σ H := q
theorem i_name (q : R (σ.set i (some v)) H) : gName i v σ H R := q
theorem i_ifs (q : tt σ H fun b H1 => if b = true then ts D σ H1 else tz D σ H1) : tIfS tt ts tz D σ H := q
theorem i_test (q : te σ H fun x H' => ∃ k, x = .bl k ∧ Qb k H') : tTest te σ H Qb := q
theorem i_B (q : te σ H fun x H' => ∃ k, x = .bl k ∧ Qb k H') : tB te σ H Qb := q
theorem i_bl {k : Bool} {P : Bool → Prop} (q : P k) : ∃ k', V.bl k = .bl k' ∧ P k' := ⟨_, rfl, q⟩
theorem i_op (q : ta σ H fun x H1 => tb σ H1 fun y H2 => r x y H2 Q) : tOp r ta tb σ H Q := q
theorem i_un {r : V → Hp → VK → Prop} (q : ta σ H fun x H1 => r x H1 Q) : tUn r ta σ H Q := q
theorem i_cb {r : List V → Hp → VK → Prop} (q : tas σ H fun vs H1 => r vs H1 Q) : tCB r tas σ H Q := q
theorem i_cons (q : te σ H fun x H1 => tr σ H1 fun xs H2 => Qs (x :: xs) H2) : tCons te tr σ H Qs := q
theorem i_nil (q : Qs [] H) : tNil σ H Qs := q
theorem i_call (q : tas σ H fun vs H1 => sp (vs ++ dvs) H1 Q E) : tCall sp dvs E tas σ H Q := q
theorem i_and (q : tt σ H fun c H1 => if c = true then tu σ H1 Qb else Qb false H1) : tAnd tt tu σ H Qb := q
theorem i_or (q : tt σ H fun c H1 => if c = true then Qb true H1 else tu σ H1 Qb) : tOr tt tu σ H Qb := q
theorem i_not (q : tt σ H fun c H1 => Qb (!c) H1) : tNot tt σ H Qb := q
theorem i_andV (q : ta σ H fun x H1 => ∃ c, x = .bl c ∧ if c = true then tb σ H1 Q else Q (.bl false) H1) : tAndV ta tb σ H Q := q
theorem i_orV (q : ta σ H fun x H1 => ∃ c, x = .bl c ∧ if c = true then Q (.bl true) H1 else tb σ H1 Q) : tOrV ta tb σ H Q := q
theorem i_notV (q : ta σ H fun x H1 => ∃ c, x = .bl c ∧ Q (.bl (!c)) H1) : tNotV ta σ H Q := q
theorem i_if (q : tt σ H fun c H1 => if c = true then ta σ H1 Q else tb σ H1 Q) : tIf tt ta tb σ H Q := q
theorem i_tup (q : tas σ H fun xs H1 => xs.length ≤ sizeLine ∧ ∀ p, H1 p = none → Q (.ref p) (upd H1 p (.tup xs))) : tTup tas σ H Q := q
theorem i_lst (q : tas σ H fun xs H1 => xs.length ≤ sizeLine ∧ ∀ p, H1 p = none → Q (.ref p) (upd H1 p (.lst xs))) : tLst tas σ H Q := q
theorem i_sl {r : V → Option Int → Option Int → Hp → VK → Prop} (q : te σ H fun x H1 => tl σ H1 fun l H2 => th σ H2 fun u H3 => r x l u H3 Q) : tSl r te tl th σ H Q := q
theorem i_nopart (q : Qo none H) : tNoPart σ H Qo := q
theorem i_part (q : te σ H fun x H1 => ∃ i, x = .int i ∧ Qo (some i) H1) : tPart te σ H Qo := q
theorem i_int {P : Int → Prop} (q : P a) : ∃ i, V.int a = .int i ∧ P i := ⟨_, rfl, q⟩
theorem i_chain (q : ta σ H fun x H1 => tb σ H1 fun y H2 => r x y H2 fun z H3 => ∃ k, z = .bl k ∧ (if k = true then tc σ H3 fun w' H4 => r' y w' H4 Q else Q (.bl false) H3)) : tChain r r' ta tb tc σ H Q := q
theorem i_I0 {g : Int → Int → V} (q : Q (g a b) H) : rI0 g (.int a) (.int b) H Q := ⟨a, b, rfl, rfl, q⟩
theorem i_eq (h : scal x y = true) (q : Q (.bl (decide (x = y))) H) : rEq x y H Q := ⟨h, q⟩
theorem i_ne (h : scal x y = true) (q : Q (.bl (!decide (x = y))) H) : rNe x y H Q := ⟨h, q⟩
theorem i_par (q : tas σ H fun vs H1 => ∃ v w, vs = [v, w] ∧ D.nx ((σ.set i (some v)).set j (some w)) H1) : tPar i j tas D σ H := q
theorem i_two {P : V → V → Prop} (q : P x y) : ∃ v w, [x, y] = [v, w] ∧ P v w := ⟨_, _, rfl, q⟩
theorem i_bm {T : String} {r : V → List V → Hp → VK → Prop} (q : ta σ H fun x H1 => tyV K T x H1 ∧ tas σ H1 fun xs H2 => r x xs H2 Q) : tBM K T r ta tas σ H Q := q
theorem i_bm0 {T : String} {r : V → List V → Hp → VK → Prop} (q : ta σ H fun x H1 => tyV K T x H1 ∧ r x [] H1 Q) : tBM0 K T r ta σ H Q := q
theorem i_tyS {z : Str} {P : Prop} (q : P) : tyV K "str" (.str z) H ∧ P := ⟨rfl, q⟩
theorem i_aug {ti : TIp} (h : σ[i]? = some (some v)) (q : te σ H fun y H1 => ti v y H1 fun z H2 => D.nx (σ.set i (some z)) H2) : tAug i te ti D σ H := ⟨v, h, q⟩
theorem i_ipI {f : Int → Int → Int} (q : Q (.int (f a b)) H) : ipI f (.int a) (.int b) H Q := ⟨a, b, rfl, rfl, q⟩
theorem i_m1 {r : V → List V → Hp → VK → Prop} (q : ta σ H fun x H1 => (∃ a, x = .str a) ∧ tb σ H1 fun y H2 => r x [y] H2 Q) : tM1 r ta tb σ H Q := q
theorem i_str {z : Str} {P : Prop} (q : P) : (∃ a, V.str z = .str a) ∧ P := ⟨⟨_, rfl⟩, q⟩
theorem i_gsub {t : TSet} (q : ta σ H fun o H1 => tb σ H1 fun i H2 => t o i v H2 fun H3 => R σ H3) : gSub ta tb t v σ H R := q
theorem i_ite {c : Bool} {A B : Prop} (h : c = true) (q : A) : if c = true then A else B := by rw [if_pos h]; exact q
theorem i_itf {c : Bool} {A B : Prop} (h : c = false) (q : B) : if c = true then A else B := by rw [h]; exact q
theorem i_cases {c : Bool} {A B : Prop} (h1 : c = true → A) (h2 : c = false → B) : if c = true then A else B := by cases c with | true => exact h1 rfl | false => exact h2 rfl
theorem r_y {x : V} {t n : String} (ty : TyX K H x (.type t)) (q : Q (.bl true) H) (h : kitB t n = some true := by decide +kernel) : rIsi K [x, .ty n] H Q := r_isi ty h q
theorem r_n {x : V} {t n : String} (ty : TyX K H x (.type t)) (q : Q (.bl false) H) (h : kitB t n = some false := by decide +kernel) : rIsi K [x, .ty n] H Q := r_isi ty h q
end
end K04
/-! text P0 -/
set_option Elab.async false
set_option linter.all false
set_option maxRecDepth 100000
set_option maxHeartbeats 4000000
/-! Plain data: programs as trees, their lines, what counts in them; what is cut off a program -/
namespace K04
open PySem TL
/-- a text of these signs -/
abbrev mk (l : List Nat) : Str := ⟨l.toArray⟩
theorem tl_mk' (l : List Nat) : tl (mk l) = l := by simp [tl, mk]
theorem mk_tl' (x : Str) : mk (tl x) = x := by cases x; simp [tl, mk]
theorem len_mk (l : List Nat) : (mk l).length = l.length := by simp [mk, Str.length]
theorem mk_app (a b : List Nat) : mk a ++ mk b = mk (a ++ b) := ext_tl (by rw [tl_append, tl_mk', tl_mk', tl_mk'])
theorem mk_inj {a b : List Nat} (h : mk a = mk b) : a = b := by
  have := congrArg tl h
  simpa [tl_mk'] using this
/-- the signs of a written text -/
def cs (s : String) : List Nat := s.toList.map Char.toNat
theorem mk_cs (s : String) : mk (cs s) = Str.ofString s := (Str.ofString_eq_toList s).symm
theorem tl_cs (s : String) : tl (Str.ofString s) = cs s := by rw [← mk_cs, tl_mk']
/-! ### expressions -/
inductive Op3 where
  | plus | minus | times
  deriving DecidableEq
def Op3.word : Op3 → Str
  | .plus => "plus" | .minus => "minus" | .times => "times"
def Op3.sign : Op3 → List Nat
  | .plus => [32, 43, 32] | .minus => [32, 45, 32] | .times => [32, 42, 32]
inductive Ex where
  | num (i : Int) | nam (x : Str) | bin (o : Op3) (a b : Ex)
  deriving DecidableEq
def Ex.py : Ex → PyData
  | .num i => .int i
  | .nam x => .str x
  | .bin o a b => .tuple [.str o.word, a.py, b.py]
def Ex.isNum : Ex → Bool
  | .num _ => true
  | _ => false
def letters : List Nat := cs "abcdefghijklmnopqrstuvwxyz"
def figs : List Nat := cs "0123456789"
def kept : List (List Nat) := [cs "set", cs "pay", cs "stop", cs "if", cs "else", cs "we", cs "they", cs "or", cs "repeat", cs "pass", cs "rest", cs "of", cs "not", cs "program"]
/-- a name -/
def nameOk (l : List Nat) : Bool :=
  match l with
  | [] => false
  | c :: _ => decide (l.length ≤ 8) && decide (c ∈ letters) && l.all (fun c => decide (c ∈ letters ++ figs)) && decide (l ∉ kept)
def Ex.ok : Nat → Ex → Bool
  | 0, _ => false
  | _ + 1, .num i => decide (-99 ≤ i ∧ i ≤ 99)
  | _ + 1, .nam x => nameOk (tl x)
  | n + 1, .bin .times (.num f) b => decide (-9 ≤ f ∧ f ≤ 9) && b.ok n
  | _ + 1, .bin .times _ _ => false
  | n + 1, .bin _ a b => a.ok n && b.ok n
/-! ### tests -/
inductive Te where
  | less (a b : Ex) | rest (e : Ex) (by_ r : Int) | no (t : Te)
  deriving DecidableEq
def Te.py : Te → PyData
  | .less a b => .tuple [.str "less", a.py, b.py]
  | .rest e q r => .tuple [.str "rest", e.py, .int q, .int r]
  | .no t => .tuple [.str "not", t.py]
def Te.ok : Nat → Te → Bool
  | _, .less a b => a.ok 3 && b.ok 3
  | _, .rest e q r => e.ok 3 && decide (2 ≤ q ∧ q ≤ 6) && decide (0 ≤ r ∧ r ≤ q - 1)
  | 0, .no _ => false
  | n + 1, .no t => t.ok n
def Te.bare : Te → Te
  | .no t => t.bare
  | t => t
/-! ### statements -/
inductive Sm where
  | set (x : Str) (e : Ex) | pay (e : Ex) | stop
  | ift (t : Te) (y n : List Sm) | cho (h : Bool) (a b : List Sm) | rep (k : Int) (b : List Sm)
  /-- a choice whose other block is still to come -/
  | half (h : Bool) (a : List Sm)
/-- whose choice: true: we -/
def hand : Bool → Str
  | true => "we"
  | false => "they"
mutual
def Sm.py : Sm → PyData
  | .set x e => .tuple [.str "set", .str x, e.py]
  | .pay e => .tuple [.str "pay", e.py]
  | .stop => .tuple [.str "stop"]
  | .ift t y n => .tuple [.str "if", t.py, .tuple (Sm.pys y), .tuple (Sm.pys n)]
  | .cho h a b => .tuple [.str (hand h), .tuple (Sm.pys a), .tuple (Sm.pys b)]
  | .rep k b => .tuple [.str "repeat", .int k, .tuple (Sm.pys b)]
  | .half h a => .tuple [.str (hand h), .tuple (Sm.pys a)]
def Sm.pys : List Sm → List PyData
  | [] => []
  | s :: r => s.py :: Sm.pys r
end
theorem pys_eq : ∀ l : List Sm, Sm.pys l = l.map Sm.py
  | [] => rfl
  | s :: r => by rw [Sm.pys, pys_eq r]; rfl
def Sm.simple : Sm → Bool
  | .set _ _ => true
  | .pay _ => true
  | .stop => true
  | _ => false
/-- what is asked of a statement alone -/
def Sm.ok : Sm → Bool
  | .set x e => nameOk (tl x) && e.ok 3
  | .pay e => e.ok 3
  | .stop => true
  | .ift t _ _ => t.ok 2
  | .cho _ _ _ => true
  | .rep k _ => decide (1 ≤ k ∧ k ≤ 8)
  | .half _ _ => false
mutual
/-- statements that lie in d others -/
def Sm.good (d : Nat) : Sm → Bool
  | .set x e => decide (d ≤ 3) && nameOk (tl x) && e.ok 3
  | .pay e => decide (d ≤ 3) && e.ok 3
  | .stop => decide (d ≤ 3)
  | .ift t y n => decide (d ≤ 3) && t.ok 2 && Sm.goods (d + 1) y && Sm.goods (d + 1) n
  | .cho _ a b => decide (d ≤ 3) && Sm.goods (d + 1) a && Sm.goods (d + 1) b
  | .rep k b => decide (d ≤ 3) && decide (1 ≤ k ∧ k ≤ 8) && Sm.goods (d + 1) b
  | .half _ _ => false
def Sm.goods (d : Nat) : List Sm → Bool
  | [] => true
  | s :: r => s.good d && Sm.goods d r
end
inductive Srt where
  | weight | choice | rest | less
  deriving DecidableEq
def Srt.str : Srt → Str
  | .weight => "weight" | .choice => "choice" | .rest => "rest" | .less => "less"
def Te.is (q : Srt) : Te → Bool
  | .less _ _ => q == .less
  | .rest _ _ _ => q == .rest
  | .no _ => false
def Sm.own (q : Srt) : Sm → Nat
  | s => match q with
    | .weight => 1
    | .choice => (match s with | .cho _ _ _ => 1 | .half _ _ => 1 | _ => 0)
    | q => (match s with | .ift t _ _ => if t.bare.is q then 1 else 0 | _ => 0)
mutual
def Sm.cnt (q : Srt) : Sm → Nat
  | .ift t y n => Sm.own q (.ift t y n) + (Sm.cnts q y + Sm.cnts q n)
  | .cho h a b => Sm.own q (.cho h a b) + (Sm.cnts q a + Sm.cnts q b)
  | .rep k b => Sm.own q (.rep k b) + Sm.cnts q b * k.toNat
  | .half h a => Sm.own q (.half h a) + Sm.cnts q a
  | .set x e => Sm.own q (.set x e)
  | .pay e => Sm.own q (.pay e)
  | .stop => Sm.own q .stop
def Sm.cnts (q : Srt) : List Sm → Nat
  | [] => 0
  | s :: r => s.cnt q + Sm.cnts q r
end
mutual
def Sm.pl : Sm → Nat
  | .ift _ y n => 1 + (Sm.pls y + Sm.pls n)
  | .cho _ a b => 1 + (Sm.pls a + Sm.pls b)
  | .rep _ b => 1 + Sm.pls b
  | .half _ a => 1 + Sm.pls a
  | .set _ _ => 1
  | .pay _ => 1
  | .stop => 1
def Sm.pls : List Sm → Nat
  | [] => 0
  | s :: r => s.pl + Sm.pls r
end
structure Prog (p : List Sm) : Prop where
  good : Sm.goods 0 p = true
  pl : Sm.pls p ≤ 24
  wt : Sm.cnts .weight p ≤ 30
  ch : Sm.cnts .choice p ≤ 4
  re : Sm.cnts .rest p ≤ 2
  le : Sm.cnts .less p ≤ 2
/-! ### a program's beginning -/
mutual
inductive CutS : Sm → Sm → Prop
  | ifY (t : Te) (y' y n : List Sm) : CutB y' y → CutS (.ift t y' []) (.ift t y n)
  | ifN (t : Te) (y n' n : List Sm) : CutB n' n → CutS (.ift t y n') (.ift t y n)
  | chB (h : Bool) (a b' b : List Sm) : CutB b' b → CutS (.cho h a b') (.cho h a b)
  | rp (k : Int) (b' b : List Sm) : CutB b' b → CutS (.rep k b') (.rep k b)
inductive CutB : List Sm → List Sm → Prop
  | nil (b : List Sm) : CutB [] b
  | cons (s : Sm) (r' r : List Sm) : CutB r' r → CutB (s :: r') (s :: r)
  | last (s' s : Sm) (r : List Sm) : CutS s' s → CutB [s'] (s :: r)
end
mutual
theorem CutS.own {q : Srt} : ∀ {s' s : Sm}, CutS s' s → s'.own q = s.own q
  | _, _, .ifY t y' y n h => by cases q <;> rfl
  | _, _, .ifN t y n' n h => by cases q <;> rfl
  | _, _, .chB h a b' b _ => by cases q <;> rfl
  | _, _, .rp k b' b _ => by cases q <;> rfl
end
mutual
theorem CutS.cnt (q : Srt) : ∀ {s' s : Sm}, CutS s' s → s'.cnt q ≤ s.cnt q
  | _, _, .ifY t y' y n h => by
    have a := CutB.cnts q h
    have b : Sm.own q (.ift t y' []) = Sm.own q (.ift t y n) := by cases q <;> rfl
    simp only [Sm.cnt, Sm.cnts, b]; omega
  | _, _, .ifN t y n' n h => by
    have a := CutB.cnts q h
    have b : Sm.own q (.ift t y n') = Sm.own q (.ift t y n) := by cases q <;> rfl
    simp only [Sm.cnt, b]; omega
  | _, _, .chB h x b' y z => by
    have a := CutB.cnts q z
    have b : Sm.own q (.cho h x b') = Sm.own q (.cho h x y) := by cases q <;> rfl
    simp only [Sm.cnt, b]; omega
  | _, _, .rp k b' y z => by
    have a := CutB.cnts q z
    have b : Sm.own q (.rep k b') = Sm.own q (.rep k y) := by cases q <;> rfl
    have c := Nat.mul_le_mul_right k.toNat a
    simp only [Sm.cnt, b]; omega
theorem CutB.cnts (q : Srt) : ∀ {b' b : List Sm}, CutB b' b → Sm.cnts q b' ≤ Sm.cnts q b
  | _, _, .nil b => by simp [Sm.cnts]
  | _, _, .cons s r' r h => by
    have a := CutB.cnts q h
    simp only [Sm.cnts]; omega
  | _, _, .last s' s r h => by
    have a := CutS.cnt q h
    simp only [Sm.cnts]; omega
end
mutual
theorem CutS.pl : ∀ {s' s : Sm}, CutS s' s → s'.pl ≤ s.pl
  | _, _, .ifY t y' y n h => by
    have a := CutB.pls h
    simp only [Sm.pl, Sm.pls]; omega
  | _, _, .ifN t y n' n h => by
    have a := CutB.pls h
    simp only [Sm.pl]; omega
  | _, _, .chB h x b' y z => by
    have a := CutB.pls z
    simp only [Sm.pl]; omega
  | _, _, .rp k b' y z => by
    have a := CutB.pls z
    simp only [Sm.pl]; omega
theorem CutB.pls : ∀ {b' b : List Sm}, CutB b' b → Sm.pls b' ≤ Sm.pls b
  | _, _, .nil b => by simp [Sm.pls]
  | _, _, .cons s r' r h => by
    have a := CutB.pls h
    simp only [Sm.pls]; omega
  | _, _, .last s' s r h => by
    have a := CutS.pl h
    simp only [Sm.pls]; omega
end
mutual
theorem CutS.good : ∀ {s' s : Sm} (d : Nat), CutS s' s → s.good d = true → s'.good d = true
  | _, _, d, .ifY t y' y n h, g => by
    simp only [Sm.good, Bool.and_eq_true] at g ⊢
    exact ⟨⟨g.1.1, CutB.goods (d + 1) h g.1.2⟩, rfl⟩
  | _, _, d, .ifN t y n' n h, g => by
    simp only [Sm.good, Bool.and_eq_true] at g ⊢
    exact ⟨g.1, CutB.goods (d + 1) h g.2⟩
  | _, _, d, .chB h x b' y z, g => by
    simp only [Sm.good, Bool.and_eq_true] at g ⊢
    exact ⟨g.1, CutB.goods (d + 1) z g.2⟩
  | _, _, d, .rp k b' y z, g => by
    simp only [Sm.good, Bool.and_eq_true] at g ⊢
    exact ⟨g.1, CutB.goods (d + 1) z g.2⟩
theorem CutB.goods : ∀ {b' b : List Sm} (d : Nat), CutB b' b → Sm.goods d b = true → Sm.goods d b' = true
  | _, _, d, .nil b, g => rfl
  | _, _, d, .cons s r' r h, g => by
    simp only [Sm.goods, Bool.and_eq_true] at g ⊢
    exact ⟨g.1, CutB.goods d h g.2⟩
  | _, _, d, .last s' s r h, g => by
    simp only [Sm.goods, Bool.and_eq_true] at g ⊢
    exact ⟨CutS.good d h g.1, trivial⟩
end
theorem CutB.prog {q p : List Sm} (h : CutB q p) (g : Prog p) : Prog q :=
  ⟨h.goods 0 g.good, Nat.le_trans h.pls g.pl, Nat.le_trans (h.cnts _) g.wt, Nat.le_trans (h.cnts _) g.ch, Nat.le_trans (h.cnts _) g.re, Nat.le_trans (h.cnts _) g.le⟩
theorem CutB.app : ∀ (r : List Sm) {b' b : List Sm}, CutB b' b → CutB (r ++ b') (r ++ b)
  | [], _, _, h => h
  | s :: r, _, _, h => .cons s _ _ (CutB.app r h)
theorem CutB.refl : ∀ b : List Sm, CutB b b
  | [] => .nil []
  | s :: r => .cons s r r (CutB.refl r)
theorem CutB.front (a b : List Sm) : CutB a (a ++ b) := by
  have h := CutB.app a (CutB.nil b)
  rw [List.append_nil] at h
  exact h
end K04
/-! text P1 -/
set_option Elab.async false
set_option linter.all false
set_option maxRecDepth 100000
set_option maxHeartbeats 4000000
/-! Texts: how a program is written, and the reading of a line, as plain functions on lists of signs; what is written is read back -/
namespace K04
open PySem TL
/-! ### writing -/
def numL' (i : Int) : List Nat := cs (toString i)
def exL : Ex → List Nat
  | .num i => numL' i
  | .nam x => tl x
  | .bin o a b => 40 :: (exL a ++ (o.sign ++ (exL b ++ [41])))
def teL : Te → List Nat
  | .less a b => exL a ++ ([32, 60, 32] ++ exL b)
  | .rest e q r => cs "rest " ++ (numL' r ++ (cs " of " ++ (numL' q ++ ([32] ++ exL e))))
  | .no t => cs "not " ++ teL t
def liL : Sm → List Nat
  | .set x e => cs "set " ++ (tl x ++ ([32] ++ exL e))
  | .pay e => cs "pay " ++ exL e
  | .stop => cs "stop"
  | .ift t _ _ => cs "if " ++ teL t
  | .cho h _ _ => tl (hand h)
  | .rep k _ => cs "repeat " ++ numL' k
  | .half h _ => tl (hand h)
def ind (d : Nat) : List Nat := List.replicate (2 * d) 32
mutual
def Sm.lines (d : Nat) : Sm → List (List Nat)
  | .ift t y n => (ind d ++ liL (.ift t y n)) :: ((if y.isEmpty then [ind (d + 1) ++ cs "pass"] else Sm.liness (d + 1) y) ++ (if n.isEmpty then [] else (ind d ++ cs "else") :: Sm.liness (d + 1) n))
  | .cho h a b => (ind d ++ liL (.cho h a b)) :: ((if a.isEmpty then [ind (d + 1) ++ cs "pass"] else Sm.liness (d + 1) a) ++ ((ind d ++ cs "or") :: (if b.isEmpty then [ind (d + 1) ++ cs "pass"] else Sm.liness (d + 1) b)))
  | .rep k b => (ind d ++ liL (.rep k b)) :: (if b.isEmpty then [ind (d + 1) ++ cs "pass"] else Sm.liness (d + 1) b)
  | .half h a => (ind d ++ liL (.half h a)) :: (if a.isEmpty then [ind (d + 1) ++ cs "pass"] else Sm.liness (d + 1) a)
  | .set x e => [ind d ++ liL (.set x e)]
  | .pay e => [ind d ++ liL (.pay e)]
  | .stop => [ind d ++ liL .stop]
def Sm.liness (d : Nat) : List Sm → List (List Nat)
  | [] => []
  | s :: r => s.lines d ++ Sm.liness d r
end
/-- a block that may be empty -/
def partL (d : Nat) (b : List Sm) : List (List Nat) := if b.isEmpty then [ind d ++ cs "pass"] else Sm.liness d b
theorem liness_app (d : Nat) : ∀ a b : List Sm, Sm.liness d (a ++ b) = Sm.liness d a ++ Sm.liness d b
  | [], b => rfl
  | s :: r, b => by
    show s.lines d ++ Sm.liness d (r ++ b) = (s.lines d ++ Sm.liness d r) ++ Sm.liness d b
    rw [liness_app d r b, List.append_assoc]
/-! ### reading -/
def intOf (l : List Nat) (most : Nat) : Option Int :=
  let f := if l.head? = some 45 then l.drop 1 else l
  if !(decide (1 ≤ f.length) && decide (f.length ≤ most)) || !(f.filter (fun c => !decide (c ∈ figs))).isEmpty then none
  else if f.head? = some 48 ∧ l ≠ [48] then none
  else some (if l.head? = some 45 then -((NumText.digitsVal f : Nat) : Int) else (NumText.digitsVal f : Nat))
def opOf (l : List Nat) : Option Op3 := if l = Op3.plus.sign then some .plus else if l = Op3.minus.sign then some .minus else if l = Op3.times.sign then some .times else none
def inTok (c : Nat) : Bool := !(c == 32 || c == 41 || c == 40)
def endAt (l : List Nat) (i : Nat) : Nat := i + ((l.drop i).takeWhile inTok).length
def exAt : Nat → List Nat → Nat → Option (Ex × Nat)
  | 0, _, _ => none
  | f + 1, l, i =>
    if (l.drop i).take 1 = [40] then
      match exAt f l (i + 1) with
      | none => none
      | some (one, e) => match opOf ((l.drop e).take 3) with
        | none => none
        | some o => if o = .times ∧ one.isNum = false then none else
          match exAt f l (e + 3) with
          | none => none
          | some (r, e2) => if (l.drop e2).take 1 = [41] then some (.bin o one r, e2 + 1) else none
    else
      match intOf ((l.drop i).takeWhile inTok) 20 with
      | some n => some (.num n, endAt l i)
      | none => if nameOk ((l.drop i).takeWhile inTok) then some (.nam (mk ((l.drop i).takeWhile inTok)), endAt l i) else none
def exOf (l : List Nat) : Option Ex := match exAt 20 l 0 with
  | some (e, n) => if n = l.length then some e else none
  | none => none
/-- ahead of the first blank, behind it -/
def bef (l : List Nat) : List Nat := l.takeWhile (· != 32)
def aft (l : List Nat) : List Nat := (l.dropWhile (· != 32)).drop 1
def restOf (l : List Nat) : Option Te :=
  match intOf (bef l) 20, intOf (bef (aft (aft l))) 20, exOf (aft (aft (aft l))) with
  | some r, some q, some e => if bef (aft l) = cs "of" then some (.rest e q r) else none
  | _, _, _ => none
def ptOf (l : List Nat) : Option Te :=
  if l.take 5 = cs "rest " then restOf (l.drop 5) else
  match exAt 20 l 0 with
  | none => none
  | some (a, e) => if (l.drop e).take 3 ≠ [32, 60, 32] then none else
    match exOf (l.drop (e + 3)) with
    | none => none
    | some b => some (.less a b)
/-- the nots ahead, and what stands behind them -/
def nn : Nat → List Nat → Nat × List Nat
  | 0, l => (0, l)
  | f + 1, l => if l.take 4 = cs "not " then ((nn f (l.drop 4)).1 + 1, (nn f (l.drop 4)).2) else (0, l)
def wrap : Nat → Te → Te
  | 0, t => t
  | n + 1, t => .no (wrap n t)
def teOf (l : List Nat) : Option Te := match ptOf (nn l.length l).2 with
  | none => none
  | some t => if 20 < (nn l.length l).1 then none else some (wrap (nn l.length l).1 t)
/-- a statement's line -/
inductive Hd where
  | set (x : Str) (e : Ex) | pay (e : Ex) | stop | ift (t : Te) | cho (h : Bool) | rep (k : Int)
  deriving DecidableEq
def Hd.py : Hd → PyData
  | .set x e => .tuple [.str "set", .str x, e.py]
  | .pay e => .tuple [.str "pay", e.py]
  | .stop => .tuple [.str "stop"]
  | .ift t => .tuple [.str "if", t.py]
  | .cho h => .tuple [.str (hand h)]
  | .rep k => .tuple [.str "repeat", .int k]
def Sm.hd : Sm → Hd
  | .set x e => .set x e
  | .pay e => .pay e
  | .stop => .stop
  | .ift t _ _ => .ift t
  | .cho h _ _ => .cho h
  | .rep k _ => .rep k
  | .half h _ => .cho h
def setOf (l : List Nat) : Option Hd := match exOf (aft l) with
  | some e => if nameOk (bef l) then some (.set (mk (bef l)) e) else none
  | none => none
def stOf (l : List Nat) : Option Hd :=
  if l = cs "stop" then some .stop else if l = cs "we" then some (.cho true) else if l = cs "they" then some (.cho false) else
  if bef l = cs "set" then setOf (aft l) else
  if bef l = cs "pay" then (exOf (aft l)).map .pay else
  if bef l = cs "if" then (teOf (aft l)).map .ift else
  if bef l = cs "repeat" then (intOf (aft l) 20).map .rep else none
/-! ### numbers, names -/
def smalls : List Int := (List.range 199).map fun (n : Nat) => (n : Int) - 99
theorem mem_smalls {i : Int} (h1 : -99 ≤ i) (h2 : i ≤ 99) : i ∈ smalls := by
  refine List.mem_map.mpr ⟨(i + 99).toNat, List.mem_range.mpr (by omega), by omega⟩
def numFact (i : Int) : Bool := decide (intOf (numL' i) 20 = some i) && (numL' i).all inTok && decide (numL' i ≠ []) && (numL' i).all (· != 10) && decide ((numL' i).length ≤ 3) && decide (numL' i ≠ cs "rest") && decide (numL' i ≠ cs "not") && decide ((numL' i).head? ≠ some 114) && decide ((numL' i).head? ≠ some 110)
theorem numFacts : smalls.all numFact = true := by decide +kernel
theorem num_fact {i : Int} (h1 : -99 ≤ i) (h2 : i ≤ 99) : numFact i = true := List.all_eq_true.mp numFacts i (mem_smalls h1 h2)
theorem num_read {i : Int} (h1 : -99 ≤ i) (h2 : i ≤ 99) : intOf (numL' i) 20 = some i := by
  have h := num_fact h1 h2
  simp only [numFact, Bool.and_eq_true, decide_eq_true_eq] at h
  exact h.1.1.1.1.1.1.1.1
theorem num_tok {i : Int} (h1 : -99 ≤ i) (h2 : i ≤ 99) : (numL' i).all inTok = true := by
  have h := num_fact h1 h2
  simp only [numFact, Bool.and_eq_true, decide_eq_true_eq] at h
  exact h.1.1.1.1.1.1.1.2
theorem num_ne {i : Int} (h1 : -99 ≤ i) (h2 : i ≤ 99) : numL' i ≠ [] := by
  have h := num_fact h1 h2
  simp only [numFact, Bool.and_eq_true, decide_eq_true_eq] at h
  exact h.1.1.1.1.1.1.2
theorem num_nl {i : Int} (h1 : -99 ≤ i) (h2 : i ≤ 99) : (numL' i).all (· != 10) = true := by
  have h := num_fact h1 h2
  simp only [numFact, Bool.and_eq_true, decide_eq_true_eq] at h
  exact h.1.1.1.1.1.2
theorem num_len {i : Int} (h1 : -99 ≤ i) (h2 : i ≤ 99) : (numL' i).length ≤ 3 := by
  have h := num_fact h1 h2
  simp only [numFact, Bool.and_eq_true, decide_eq_true_eq] at h
  exact h.1.1.1.1.2
theorem num_hd {i : Int} (h1 : -99 ≤ i) (h2 : i ≤ 99) : (numL' i).head? ≠ some 114 ∧ (numL' i).head? ≠ some 110 := by
  have h := num_fact h1 h2
  simp only [numFact, Bool.and_eq_true, decide_eq_true_eq] at h
  exact ⟨h.1.2, h.2⟩
theorem signFacts : (letters ++ figs).all (fun c => inTok c && (c != 10) && (c != 32)) = true := by decide +kernel
theorem lettersFacts : letters.all (fun c => !decide (c ∈ figs) && (c != 45) && (c != 40)) = true := by decide +kernel
theorem name_all {l : List Nat} (h : nameOk l = true) : ∃ c r, l = c :: r ∧ c ∈ letters ∧ l.length ≤ 8 ∧ (∀ x ∈ l, x ∈ letters ++ figs) ∧ l ∉ kept := by
  cases l with
  | nil => cases h
  | cons c r =>
    simp only [nameOk, Bool.and_eq_true, decide_eq_true_eq] at h
    exact ⟨c, r, rfl, h.1.1.2, h.1.1.1, fun x hx => of_decide_eq_true (List.all_eq_true.mp h.1.2 x hx), h.2⟩
theorem name_tok {l : List Nat} (h : nameOk l = true) : l.all inTok = true := by
  obtain ⟨c, r, e, hc, hl, ha, hk⟩ := name_all h
  refine List.all_eq_true.mpr fun x hx => ?_
  have z := List.all_eq_true.mp signFacts x (ha x hx)
  simp only [Bool.and_eq_true] at z
  exact z.1.1
theorem name_nl {l : List Nat} (h : nameOk l = true) : l.all (· != 10) = true := by
  obtain ⟨c, r, e, hc, hl, ha, hk⟩ := name_all h
  refine List.all_eq_true.mpr fun x hx => ?_
  have z := List.all_eq_true.mp signFacts x (ha x hx)
  simp only [Bool.and_eq_true] at z
  exact z.1.2
theorem name_noint {l : List Nat} (h : nameOk l = true) : intOf l 20 = none := by
  obtain ⟨c, r, rfl, hc, hl, ha, hk⟩ := name_all h
  have z := List.all_eq_true.mp lettersFacts c hc
  simp only [Bool.and_eq_true, bne_iff_ne, ne_eq] at z
  have e1 : ¬ ((c :: r).head? = some 45) := fun q => z.1.2 (Option.some.inj q)
  unfold intOf
  simp only [e1, if_false]
  have e2 : ((c :: r).filter (fun c => !decide (c ∈ figs))).isEmpty = false := by
    rw [List.filter_cons, if_pos z.1.1]
    rfl
  rw [e2]
  simp
end K04
/-! text P2 -/
set_option Elab.async false
set_option linter.all false
set_option maxRecDepth 100000
set_option maxHeartbeats 4000000
/-! What is written is read back -/
namespace K04
open PySem TL
/-- nothing of a token behind -/
def Stops (post : List Nat) : Prop := ∀ c r, post = c :: r → inTok c = false
theorem tw_app : ∀ {t post : List Nat}, t.all inTok = true → Stops post → (t ++ post).takeWhile inTok = t
  | [], post, _, h => by
    cases post with
    | nil => rfl
    | cons c r => rw [List.nil_append, List.takeWhile_cons, h c r rfl]; rfl
  | c :: t, post, ha, h => by
    rw [List.all_cons, Bool.and_eq_true] at ha
    rw [List.cons_append, List.takeWhile_cons, ha.1, if_pos rfl, tw_app ha.2 h]
theorem drop_pre (pre l : List Nat) : (pre ++ l).drop pre.length = l := by simp
theorem take1_tok {t post : List Nat} (ht : t.all inTok = true) (hn : t ≠ []) : (t ++ post).take 1 ≠ [40] := by
  cases t with
  | nil => exact absurd rfl hn
  | cons c r =>
    rw [List.all_cons, Bool.and_eq_true] at ht
    intro e
    have e2 : c = 40 := by simpa using e
    rw [e2] at ht
    have : inTok 40 = false := by decide
    rw [this] at ht
    exact Bool.noConfusion ht.1
theorem opOf_sign (o : Op3) : opOf o.sign = some o := by cases o <;> decide
theorem sign_len (o : Op3) : o.sign.length = 3 := by cases o <;> rfl
theorem sign_stop (o : Op3) (r : List Nat) : Stops (o.sign ++ r) := by
  intro c q e
  cases o <;> (injection e with e1 _; rw [← e1]; decide)
theorem tok_num {f : Nat} {l pre t post : List Nat} {i : Int} (e : l = pre ++ (t ++ post)) (ht : t.all inTok = true) (hn : t ≠ []) (hs : Stops post) (hi : intOf t 20 = some i) :
    exAt (f + 1) l pre.length = some (.num i, pre.length + t.length) := by
  have d : l.drop pre.length = t ++ post := by rw [e, drop_pre]
  have h1 : ¬ (l.drop pre.length).take 1 = [40] := by rw [d]; exact take1_tok ht hn
  have tw := tw_app ht hs
  unfold exAt endAt
  rw [if_neg h1, d, tw, hi]
theorem tok_nam {f : Nat} {l pre t post : List Nat} (e : l = pre ++ (t ++ post)) (ht : nameOk t = true) (hs : Stops post) :
    exAt (f + 1) l pre.length = some (.nam (mk t), pre.length + t.length) := by
  have hn : t ≠ [] := fun z => by rw [z] at ht; cases ht
  have d : l.drop pre.length = t ++ post := by rw [e, drop_pre]
  have h1 : ¬ (l.drop pre.length).take 1 = [40] := by rw [d]; exact take1_tok (name_tok ht) hn
  have tw := tw_app (name_tok ht) hs
  unfold exAt endAt
  rw [if_neg h1, d, tw, name_noint ht]
  show (if nameOk t = true then _ else _) = _
  rw [if_pos ht]
theorem exAt_read : ∀ (e : Ex) (n f : Nat) (l pre post : List Nat), e.ok n = true → n ≤ f → l = pre ++ (exL e ++ post) → Stops post → exAt f l pre.length = some (e, pre.length + (exL e).length) := by
  intro e
  induction e with
  | num i =>
    intro n f l pre post hk hf hl hs
    cases n with
    | zero => cases hk
    | succ n =>
      cases f with
      | zero => exact absurd hf (Nat.not_succ_le_zero _)
      | succ f =>
        have hi : -99 ≤ i ∧ i ≤ 99 := of_decide_eq_true hk
        exact tok_num hl (num_tok hi.1 hi.2) (num_ne hi.1 hi.2) hs (num_read hi.1 hi.2)
  | nam x =>
    intro n f l pre post hk hf hl hs
    cases n with
    | zero => cases hk
    | succ n =>
      cases f with
      | zero => exact absurd hf (Nat.not_succ_le_zero _)
      | succ f =>
        have h := tok_nam (f := f) hl hk hs
        rw [show mk (exL (.nam x)) = x from mk_tl' x] at h
        exact h
  | bin o a b iha ihb =>
    intro n f l pre post hk hf hl hs
    cases n with
    | zero => cases hk
    | succ n =>
      cases f with
      | zero => exact absurd hf (Nat.not_succ_le_zero _)
      | succ f =>
        have hf' : n ≤ f := Nat.le_of_succ_le_succ hf
        have parts : ∃ m, m ≤ f ∧ a.ok m = true ∧ b.ok n = true ∧ (o = .times → a.isNum = true) := by
          cases o with
          | plus => simp only [Ex.ok, Bool.and_eq_true] at hk; exact ⟨n, hf', hk.1, hk.2, fun z => by cases z⟩
          | minus => simp only [Ex.ok, Bool.and_eq_true] at hk; exact ⟨n, hf', hk.1, hk.2, fun z => by cases z⟩
          | times =>
            cases a with
            | num g =>
              simp only [Ex.ok, Bool.and_eq_true, decide_eq_true_eq] at hk
              cases n with
              | zero => exact absurd hk.2 (by simp [Ex.ok])
              | succ n => exact ⟨n + 1, hf', decide_eq_true ⟨by omega, by omega⟩, hk.2, fun _ => rfl⟩
            | nam x => simp [Ex.ok] at hk
            | bin o a b => simp [Ex.ok] at hk
        obtain ⟨m, hm, ha, hb, ht⟩ := parts
        have el : l = pre ++ (40 :: (exL a ++ (o.sign ++ (exL b ++ (41 :: post))))) := by
          rw [hl]
          simp [exL]
        have d : l.drop pre.length = 40 :: (exL a ++ (o.sign ++ (exL b ++ (41 :: post)))) := by rw [el, drop_pre]
        have h1 : (l.drop pre.length).take 1 = [40] := by rw [d]; rfl
        have ra := iha m f l (pre ++ [40]) (o.sign ++ (exL b ++ (41 :: post))) ha hm (by rw [el]; simp) (sign_stop o _)
        rw [List.length_append, List.length_singleton] at ra
        have e2 : l = (pre ++ ([40] ++ exL a)) ++ (o.sign ++ (exL b ++ (41 :: post))) := by rw [el]; simp
        have l2 : (pre ++ ([40] ++ exL a)).length = pre.length + 1 + (exL a).length := by simp; omega
        have d2 : l.drop (pre.length + 1 + (exL a).length) = o.sign ++ (exL b ++ (41 :: post)) := by rw [← l2, e2, drop_pre]
        have t2 : (l.drop (pre.length + 1 + (exL a).length)).take 3 = o.sign := by
          rw [d2, ← sign_len o, List.take_left]
        have e3 : l = (pre ++ ([40] ++ (exL a ++ o.sign))) ++ (exL b ++ (41 :: post)) := by rw [el]; simp
        have l3 : (pre ++ ([40] ++ (exL a ++ o.sign))).length = pre.length + 1 + (exL a).length + 3 := by simp [sign_len]; omega
        have rb := ihb n f l (pre ++ ([40] ++ (exL a ++ o.sign))) (41 :: post) hb hf' e3 (fun c r z => by injection z with z1 _; rw [← z1]; decide)
        rw [l3] at rb
        have e4 : l = (pre ++ ([40] ++ (exL a ++ (o.sign ++ exL b)))) ++ (41 :: post) := by rw [el]; simp
        have l4 : (pre ++ ([40] ++ (exL a ++ (o.sign ++ exL b)))).length = pre.length + 1 + (exL a).length + 3 + (exL b).length := by simp [sign_len]; omega
        have t4 : (l.drop (pre.length + 1 + (exL a).length + 3 + (exL b).length)).take 1 = [41] := by rw [← l4, e4, drop_pre]; rfl
        unfold exAt
        rw [if_pos h1, ra]
        dsimp only
        rw [t2, opOf_sign]
        dsimp only
        rw [if_neg (fun z => by rw [ht z.1] at z; exact absurd z.2 (by decide)), rb]
        dsimp only
        rw [if_pos t4]
        have l5 : (exL (.bin o a b)).length = 1 + (exL a).length + 3 + (exL b).length + 1 := by simp [exL, sign_len]; omega
        rw [l5]
        have z : pre.length + 1 + (exL a).length + 3 + (exL b).length + 1 = pre.length + (1 + (exL a).length + 3 + (exL b).length + 1) := by omega
        rw [z]
theorem stops_nil : Stops [] := fun c r z => by cases z
theorem exOf_read {e : Ex} (h : e.ok 3 = true) : exOf (exL e) = some e := by
  have r := exAt_read e 3 20 (exL e) [] [] h (by decide) (by simp) stops_nil
  unfold exOf
  rw [show exAt 20 (exL e) 0 = some (e, 0 + (exL e).length) from r]
  simp
/-! ### parts between blanks -/
theorem bef_app {t r : List Nat} (h : t.all (· != 32) = true) : bef (t ++ 32 :: r) = t := by
  unfold bef
  induction t with
  | nil => rfl
  | cons c t ih =>
    rw [List.all_cons, Bool.and_eq_true] at h
    rw [List.cons_append, List.takeWhile_cons, h.1, if_pos rfl, ih h.2]
theorem aft_app {t r : List Nat} (h : t.all (· != 32) = true) : aft (t ++ 32 :: r) = r := by
  unfold aft
  induction t with
  | nil => rfl
  | cons c t ih =>
    rw [List.all_cons, Bool.and_eq_true] at h
    rw [List.cons_append, List.dropWhile_cons, h.1, if_pos rfl, ih h.2]
theorem tok_nob {t : List Nat} (h : t.all inTok = true) : t.all (· != 32) = true := by
  refine List.all_eq_true.mpr fun x hx => ?_
  have z := List.all_eq_true.mp h x hx
  simp only [inTok, Bool.not_eq_true', Bool.or_eq_false_iff, beq_eq_false_iff_ne] at z
  simp [z.1.1]
theorem ex_head {e : Ex} {n : Nat} {post t : List Nat} (h : e.ok n = true) (hs : Stops post) (ht : t.all inTok = true) (hk : t ∈ kept) (h1 : t.head? = some 114 ∨ t.head? = some 110) : ∀ r, exL e ++ post ≠ t ++ 32 :: r := by
  intro r z
  have tw : (t ++ 32 :: r).takeWhile inTok = t := tw_app ht (fun c q e => by injection e with e1 _; rw [← e1]; decide)
  cases n with
  | zero => cases h
  | succ n =>
    cases e with
    | num i =>
      have hi : -99 ≤ i ∧ i ≤ 99 := of_decide_eq_true h
      have tw2 := tw_app (num_tok hi.1 hi.2) hs
      rw [show exL (.num i) = numL' i from rfl] at z
      rw [z, tw] at tw2
      have hh := num_hd hi.1 hi.2
      rw [← tw2] at hh
      rcases h1 with h1 | h1
      · exact hh.1 h1
      · exact hh.2 h1
    | nam x =>
      have hx : nameOk (tl x) = true := h
      have tw2 := tw_app (name_tok hx) hs
      rw [show exL (.nam x) = tl x from rfl] at z
      rw [z, tw] at tw2
      obtain ⟨c, q, e1, e2, e3, e4, e5⟩ := name_all hx
      rw [← tw2] at e5
      exact e5 hk
    | bin o a b =>
      have z2 : (40 : Nat) :: (exL a ++ (o.sign ++ (exL b ++ [41])) ++ post) = t ++ 32 :: r := z
      cases t with
      | nil => rcases h1 with h1 | h1 <;> cases h1
      | cons c q =>
        injection z2 with z3 _
        rw [← z3] at h1
        rcases h1 with h1 | h1 <;> (injection h1 with h1; exact absurd h1 (by decide))
theorem kept_rest : cs "rest" ∈ kept := by decide +kernel
theorem kept_not : cs "not" ∈ kept := by decide +kernel
theorem no_rest {e : Ex} {n : Nat} {post : List Nat} (h : e.ok n = true) (hs : Stops post) : (exL e ++ post).take 5 ≠ cs "rest " := fun z =>
  ex_head h hs (by decide +kernel) kept_rest (.inl (by decide +kernel)) ((exL e ++ post).drop 5) (by
    have q := List.take_append_drop 5 (exL e ++ post)
    rw [z] at q
    exact q.symm.trans (by rw [show cs "rest " = cs "rest" ++ [32] by decide +kernel]; simp))
theorem no_not {e : Ex} {n : Nat} {post : List Nat} (h : e.ok n = true) (hs : Stops post) : (exL e ++ post).take 4 ≠ cs "not " := fun z =>
  ex_head h hs (by decide +kernel) kept_not (.inr (by decide +kernel)) ((exL e ++ post).drop 4) (by
    have q := List.take_append_drop 4 (exL e ++ post)
    rw [z] at q
    exact q.symm.trans (by rw [show cs "not " = cs "not" ++ [32] by decide +kernel]; simp))
/-! ### tests -/
theorem restOf_read {e : Ex} {q r : Int} (he : e.ok 3 = true) (hq : -99 ≤ q ∧ q ≤ 99) (hr : -99 ≤ r ∧ r ≤ 99) : restOf (numL' r ++ (cs " of " ++ (numL' q ++ ([32] ++ exL e)))) = some (.rest e q r) := by
  have e0 : numL' r ++ (cs " of " ++ (numL' q ++ ([32] ++ exL e))) = numL' r ++ 32 :: (cs "of" ++ 32 :: (numL' q ++ 32 :: exL e)) := by
    rw [show cs " of " = 32 :: (cs "of" ++ [32]) by decide +kernel]
    simp
  have b1 := bef_app (r := cs "of" ++ 32 :: (numL' q ++ 32 :: exL e)) (tok_nob (num_tok hr.1 hr.2))
  have a1 := aft_app (r := cs "of" ++ 32 :: (numL' q ++ 32 :: exL e)) (tok_nob (num_tok hr.1 hr.2))
  have b2 := bef_app (t := cs "of") (r := numL' q ++ 32 :: exL e) (by decide +kernel)
  have a2 := aft_app (t := cs "of") (r := numL' q ++ 32 :: exL e) (by decide +kernel)
  have b3 := bef_app (r := exL e) (tok_nob (num_tok hq.1 hq.2))
  have a3 := aft_app (r := exL e) (tok_nob (num_tok hq.1 hq.2))
  unfold restOf
  rw [e0, b1, a1, b2, a2, b3, a3, num_read hr.1 hr.2, num_read hq.1 hq.2, exOf_read he]
  dsimp only
  rw [if_pos rfl]
theorem rest_facts {e : Ex} {q r : Int} {n : Nat} (h : Te.ok n (.rest e q r) = true) : e.ok 3 = true ∧ (-99 ≤ q ∧ q ≤ 99) ∧ (-99 ≤ r ∧ r ≤ 99) := by
  cases n <;> (simp only [Te.ok, Bool.and_eq_true, decide_eq_true_eq] at h; exact ⟨h.1.1, by omega, by omega⟩)
theorem less_facts {a b : Ex} {n : Nat} (h : Te.ok n (.less a b) = true) : a.ok 3 = true ∧ b.ok 3 = true := by
  cases n <;> (simp only [Te.ok, Bool.and_eq_true] at h; exact h)
theorem lt_stop (r : List Nat) : Stops ([32, 60, 32] ++ r) := fun c q e => by injection e with e1 _; rw [← e1]; decide
theorem ptOf_read {t : Te} {n : Nat} (h : t.ok n = true) (hb : ∀ t', t ≠ .no t') : ptOf (teL t) = some t := by
  cases t with
  | no t' => exact absurd rfl (hb t')
  | rest e q r =>
    obtain ⟨h1, h2, h3⟩ := rest_facts h
    unfold ptOf
    have e1 : (teL (.rest e q r)).take 5 = cs "rest " := by
      unfold teL
      rw [show (5 : Nat) = (cs "rest ").length by decide +kernel, List.take_left]
    have e2 : (teL (.rest e q r)).drop 5 = numL' r ++ (cs " of " ++ (numL' q ++ ([32] ++ exL e))) := by
      unfold teL
      rw [show (5 : Nat) = (cs "rest ").length by decide +kernel, List.drop_left]
    rw [if_pos e1, e2, restOf_read h1 h2 h3]
  | less a b =>
    obtain ⟨h1, h2⟩ := less_facts h
    unfold ptOf
    rw [if_neg (show ¬ (teL (.less a b)).take 5 = cs "rest " from no_rest h1 (lt_stop _))]
    have r := exAt_read a 3 20 (teL (.less a b)) [] ([32, 60, 32] ++ exL b) h1 (by decide) (by rfl) (lt_stop _)
    rw [show exAt 20 (teL (.less a b)) 0 = some (a, 0 + (exL a).length) from r]
    dsimp only
    rw [Nat.zero_add]
    have d : (teL (.less a b)).drop (exL a).length = [32, 60, 32] ++ exL b := by unfold teL; rw [List.drop_left]
    have d3 : (teL (.less a b)).drop ((exL a).length + 3) = exL b := by
      rw [← List.drop_drop, d]; rfl
    rw [d, if_neg (by simp), d3, exOf_read h2]
def Te.nots : Te → Nat
  | .no t => t.nots + 1
  | _ => 0
theorem bare_no : ∀ (t t' : Te), t.bare ≠ .no t'
  | .less _ _, _ => fun z => by cases z
  | .rest _ _ _, _ => fun z => by cases z
  | .no t, t' => bare_no t t'
theorem wrap_bare : ∀ t : Te, wrap t.nots t.bare = t
  | .less _ _ => rfl
  | .rest _ _ _ => rfl
  | .no t => by
    show Te.no (wrap t.nots t.bare) = _
    rw [wrap_bare t]
theorem bare_ok : ∀ (t : Te) (n : Nat), t.ok n = true → t.bare.ok (n - t.nots) = true ∧ t.nots ≤ n
  | .less _ _, n, h => ⟨h, Nat.zero_le _⟩
  | .rest _ _ _, n, h => ⟨h, Nat.zero_le _⟩
  | .no t, 0, h => by cases h
  | .no t, n + 1, h => by
    obtain ⟨h1, h2⟩ := bare_ok t n h
    refine ⟨?_, Nat.succ_le_succ h2⟩
    show t.bare.ok (n + 1 - (t.nots + 1)) = true
    rw [Nat.add_sub_add_right]
    exact h1
theorem nn_read : ∀ (t : Te) (n f : Nat), t.ok n = true → t.nots ≤ f → nn f (teL t) = (t.nots, teL t.bare)
  | .less a b, n, 0, h, _ => rfl
  | .less a b, n, f + 1, h, _ => by
    unfold nn
    rw [if_neg (show ¬ (teL (.less a b)).take 4 = cs "not " from no_not (less_facts h).1 (lt_stop _))]
    rfl
  | .rest e q r, n, 0, h, _ => rfl
  | .rest e q r, n, f + 1, h, _ => by
    unfold nn
    rw [if_neg]
    · rfl
    · unfold teL
      intro z
      have : (cs "rest ").take 4 = cs "not " := by
        rw [← z, List.take_append_of_le_length (by decide +kernel)]
      exact absurd this (by decide +kernel)
  | .no t, n, 0, h, hf => absurd hf (Nat.not_succ_le_zero _)
  | .no t, 0, f + 1, h, hf => by cases h
  | .no t, n + 1, f + 1, h, hf => by
    have ih := nn_read t n f h (Nat.le_of_succ_le_succ hf)
    have e1 : (teL (.no t)).take 4 = cs "not " := by
      unfold teL
      rw [show (4 : Nat) = (cs "not ").length by decide +kernel, List.take_left]
    have e2 : (teL (.no t)).drop 4 = teL t := by
      conv => lhs; unfold teL
      rw [show (4 : Nat) = (cs "not ").length by decide +kernel, List.drop_left]
    unfold nn
    rw [if_pos e1, e2, ih]
    rfl
theorem nots_len : ∀ t : Te, t.nots ≤ (teL t).length
  | .less _ _ => Nat.zero_le _
  | .rest _ _ _ => Nat.zero_le _
  | .no t => by
    have h := nots_len t
    have e : (teL (.no t)).length = 4 + (teL t).length := by
      conv => lhs; unfold teL
      rw [List.length_append]
      rfl
    show t.nots + 1 ≤ _
    omega
theorem teOf_read {t : Te} (h : t.ok 2 = true) : teOf (teL t) = some t := by
  obtain ⟨h1, h2⟩ := bare_ok t 2 h
  unfold teOf
  rw [nn_read t 2 _ h (nots_len t)]
  dsimp only
  rw [ptOf_read h1 (bare_no t)]
  dsimp only
  rw [if_neg (by omega), wrap_bare]
/-! ### lines -/
theorem line_parts {w r : List Nat} (hw : w.all (· != 32) = true) (s : String) (e : cs s = w ++ [32]) : bef (cs s ++ r) = w ∧ aft (cs s ++ r) = r := by
  have z : cs s ++ r = w ++ 32 :: r := by rw [e]; simp
  rw [z]
  exact ⟨bef_app hw, aft_app hw⟩
theorem has_blank {l a b : List Nat} (e : l = a ++ 32 :: b) : l ≠ cs "stop" ∧ l ≠ cs "we" ∧ l ≠ cs "they" := by
  have h : 32 ∈ l := by rw [e]; simp
  refine ⟨fun z => ?_, fun z => ?_, fun z => ?_⟩ <;> (rw [z] at h; exact absurd h (by decide +kernel))
theorem stOf_read {s : Sm} (h : s.ok = true) : stOf (liL s) = some s.hd := by
  cases s with
  | set x e =>
    simp only [Sm.ok, Bool.and_eq_true] at h
    obtain ⟨p1, p2⟩ := line_parts (w := cs "set") (r := tl x ++ ([32] ++ exL e)) (by decide +kernel) "set " (by decide +kernel)
    obtain ⟨n1, n2, n3⟩ := has_blank (l := liL (.set x e)) (a := cs "set") (b := tl x ++ ([32] ++ exL e)) (by unfold liL; rw [show cs "set " = cs "set" ++ [32] by decide +kernel]; simp)
    have b1 := bef_app (r := exL e) (tok_nob (name_tok h.1))
    have a1 := aft_app (r := exL e) (tok_nob (name_tok h.1))
    unfold stOf
    rw [if_neg n1, if_neg n2, if_neg n3]
    unfold liL
    rw [p1, if_pos rfl, p2]
    unfold setOf
    rw [show tl x ++ ([32] ++ exL e) = tl x ++ 32 :: exL e from rfl]
    rw [a1, b1, exOf_read h.2]
    dsimp only
    rw [if_pos h.1, mk_tl']
    rfl
  | pay e =>
    obtain ⟨p1, p2⟩ := line_parts (w := cs "pay") (r := exL e) (by decide +kernel) "pay " (by decide +kernel)
    obtain ⟨n1, n2, n3⟩ := has_blank (l := liL (.pay e)) (a := cs "pay") (b := exL e) (by unfold liL; rw [show cs "pay " = cs "pay" ++ [32] by decide +kernel]; simp)
    unfold stOf
    rw [if_neg n1, if_neg n2, if_neg n3]
    unfold liL
    rw [p1, if_neg (by decide +kernel), if_pos rfl, p2, exOf_read h]
    rfl
  | stop => exact (by decide +kernel : stOf (cs "stop") = some Hd.stop)
  | ift t y n =>
    obtain ⟨p1, p2⟩ := line_parts (w := cs "if") (r := teL t) (by decide +kernel) "if " (by decide +kernel)
    obtain ⟨n1, n2, n3⟩ := has_blank (l := liL (.ift t y n)) (a := cs "if") (b := teL t) (by unfold liL; rw [show cs "if " = cs "if" ++ [32] by decide +kernel]; simp)
    unfold stOf
    rw [if_neg n1, if_neg n2, if_neg n3]
    unfold liL
    rw [p1, if_neg (by decide +kernel), if_neg (by decide +kernel), if_pos rfl, p2, teOf_read h]
    rfl
  | cho b x y => cases b <;> (show stOf (tl (hand _)) = some (Hd.cho _); decide +kernel)
  | rep k b =>
    have hk : 1 ≤ k ∧ k ≤ 8 := of_decide_eq_true h
    obtain ⟨p1, p2⟩ := line_parts (w := cs "repeat") (r := numL' k) (by decide +kernel) "repeat " (by decide +kernel)
    obtain ⟨n1, n2, n3⟩ := has_blank (l := liL (.rep k b)) (a := cs "repeat") (b := numL' k) (by unfold liL; rw [show cs "repeat " = cs "repeat" ++ [32] by decide +kernel]; simp)
    unfold stOf
    rw [if_neg n1, if_neg n2, if_neg n3]
    unfold liL
    rw [p1, if_neg (by decide +kernel), if_neg (by decide +kernel), if_neg (by decide +kernel), if_pos rfl, p2, num_read (by omega) (by omega)]
    rfl
  | half b a => cases h
end K04
/-! text P3 -/
set_option Elab.async false
set_option linter.all false
set_option maxRecDepth 100000
set_option maxHeartbeats 4000000
/-! The reader as a plain machine on open blocks (the innermost first) -/
namespace K04
open PySem TL
inductive Kd where
  | prog | ifk (t : Te) | cho (h : Bool) | rep (k : Int) | els | orr
def Kd.isHand : Kd → Bool
  | .cho _ => true
  | _ => false
def Kd.isIf : Kd → Bool
  | .ifk _ => true
  | _ => false
def Kd.isElse : Kd → Bool
  | .els => true
  | _ => false
def Kd.isProg : Kd → Bool
  | .prog => true
  | _ => false
structure Pt where
  kd : Kd
  rows : List Sm
  over : Bool
def Pt.new (k : Kd) : Pt := ⟨k, [], false⟩
def Pt.lacks (p : Pt) : Bool := !p.kd.isProg && (p.rows.isEmpty && !p.over)
def addNo (n : List Sm) : Sm → Sm
  | .ift t y _ => .ift t y n
  | s => s
def addOther (b : List Sm) : Sm → Sm
  | .half h a => .cho h a b
  | s => s
def mapLast (f : Sm → Sm) (l : List Sm) : List Sm := match l.getLast? with
  | none => l
  | some s => l.dropLast ++ [f s]
theorem mapLast_app (f : Sm → Sm) (l : List Sm) (s : Sm) : mapLast f (l ++ [s]) = l ++ [f s] := by simp [mapLast]
/-- the block T ends; O is the one around it -/
def absRows (k : Kd) (b : List Sm) (rows : List Sm) : List Sm := match k with
  | .els => mapLast (addNo b) rows
  | .orr => mapLast (addOther b) rows
  | .ifk t => rows ++ [.ift t b []]
  | .cho h => rows ++ [.half h b]
  | .rep k => rows ++ [.rep k b]
  | .prog => rows
def absorb (T O : Pt) : Pt := { O with rows := absRows T.kd T.rows O.rows }
def closeN : Nat → List Pt → List Pt
  | 0, S => S
  | n + 1, T :: O :: r => closeN n (absorb T O :: r)
  | _ + 1, S => S
def fin : List Pt → List Sm
  | [] => []
  | [T] => T.rows
  | T :: O :: r => fin (absorb T O :: r)
termination_by l => l.length
/-- what a line's statement does to the innermost block -/
def push (h : Hd) (C : Pt) (q : List Pt) : List Pt := match h with
  | .set x e => { C with rows := C.rows ++ [.set x e] } :: q
  | .pay e => { C with rows := C.rows ++ [.pay e] } :: q
  | .stop => { C with rows := C.rows ++ [.stop] } :: q
  | .ift t => Pt.new (.ifk t) :: C :: q
  | .cho b => Pt.new (.cho b) :: C :: q
  | .rep k => Pt.new (.rep k) :: C :: q
/-- lk: a line must follow (ahead of this line); k0: the kind of the block that ends last -/
def act (rest : List Nat) (lk : Bool) (k0 : Option Kd) : List Pt → Option (List Pt)
  | [] => none
  | C :: q =>
    if rest = cs "or" then some (Pt.new .orr :: C :: q)
    else if rest = cs "else" ∧ (k0.map Kd.isIf).getD false = true then some (Pt.new .els :: C :: q)
    else if rest = cs "pass" then (if lk = true ∧ C.kd.isElse = false then some ({ C with over := true } :: q) else none)
    else if C.over = true then none
    else match stOf rest with
      | none => none
      | some h => some (push h C q)
def rdGo (rest : List Nat) (lk : Bool) : Nat → List Pt → Option (List Pt)
  | 0, S => if rest = cs "or" then none else act rest lk none S
  | 1, T :: O :: r => if T.kd.isHand = decide (rest = cs "or") then act rest lk (some T.kd) (absorb T O :: r) else none
  | m + 2, T :: O :: r => if T.kd.isHand = true then none else rdGo rest lk (m + 1) (absorb T O :: r)
  | _ + 1, _ => none
def lst (l : List Nat) : List Nat := l.dropWhile (· == 32)
def ahead (l : List Nat) : Nat := l.length - (lst l).length
def rd (S : List Pt) (l : List Nat) : Option (List Pt) := match S with
  | [] => none
  | T :: r => if ahead l % 2 = 1 ∨ r.length < ahead l / 2 ∨ (T.lacks = true ∧ ahead l / 2 ≠ r.length) then none
    else rdGo (lst l) T.lacks (r.length - ahead l / 2) (T :: r)
def runR : List Pt → List (List Nat) → Option (List Pt)
  | S, [] => some S
  | S, l :: r => match rd S l with
    | none => none
    | some S' => runR S' r
theorem runR_app : ∀ (a b : List (List Nat)) (S : List Pt), runR S (a ++ b) = (runR S a).bind fun S' => runR S' b
  | [], b, S => rfl
  | l :: r, b, S => by
    show (match rd S l with | none => none | some S' => runR S' (r ++ b)) = (match rd S l with | none => none | some S' => runR S' r).bind _
    cases rd S l with
    | none => rfl
    | some S' => exact runR_app r b S'
def start0 : List Pt := [Pt.new .prog]
/-- whether a line must follow -/
def lacksR : List Pt → Bool
  | [] => false
  | T :: r => T.lacks || (T :: r).any (·.kd.isHand)
/-! ### the shape of the open blocks -/
def EndsIf (l : List Sm) : Prop := ∃ a t y n, l = a ++ [.ift t y n]
def EndsHalf (l : List Sm) : Prop := ∃ a h x, l = a ++ [.half h x]
def Fits (T O : Pt) : Prop := T.kd.isProg = false ∧ (T.kd = .els → EndsIf O.rows) ∧ (T.kd = .orr → EndsHalf O.rows)
def Wf : List Pt → Prop
  | [] => False
  | [b] => b.kd = .prog
  | T :: O :: r => Fits T O ∧ Wf (O :: r)
theorem Wf.keep : ∀ {O O' : Pt} {r : List Pt}, O'.kd = O.kd → Wf (O :: r) → Wf (O' :: r)
  | O, O', [], e, h => e.trans h
  | O, O', Q :: r, e, h => ⟨⟨by rw [e]; exact h.1.1, fun z => h.1.2.1 (e.symm.trans z), fun z => h.1.2.2 (e.symm.trans z)⟩, h.2⟩
theorem Wf.abs {T O : Pt} {r : List Pt} (h : Wf (T :: O :: r)) : Wf (absorb T O :: r) := Wf.keep (O := O) rfl h.2
theorem Wf.ne {S : List Pt} (h : Wf S) : ∃ T r, S = T :: r := by
  cases S with
  | nil => exact h.elim
  | cons T r => exact ⟨T, r, rfl⟩
theorem Wf.push {h : Hd} {C : Pt} {q : List Pt} (w : Wf (C :: q)) : Wf (push h C q) := by
  cases h with
  | set x e => exact Wf.keep (O := C) rfl w
  | pay e => exact Wf.keep (O := C) rfl w
  | stop => exact Wf.keep (O := C) rfl w
  | ift t => exact ⟨⟨rfl, (fun z => by cases z), (fun z => by cases z)⟩, w⟩
  | cho b => exact ⟨⟨rfl, (fun z => by cases z), (fun z => by cases z)⟩, w⟩
  | rep k => exact ⟨⟨rfl, (fun z => by cases z), (fun z => by cases z)⟩, w⟩
theorem Wf.act {rest : List Nat} {lk : Bool} {k0 : Option Kd} {C : Pt} {q S' : List Pt} (w : Wf (C :: q)) (ho : rest = cs "or" → EndsHalf C.rows) (hi : (k0.map Kd.isIf).getD false = true → EndsIf C.rows)
    (e : act rest lk k0 (C :: q) = some S') : Wf S' := by
  unfold K04.act at e
  dsimp only at e
  split at e
  · rename_i z
    cases e
    exact ⟨⟨rfl, (fun z => by cases z), fun _ => ho z⟩, w⟩
  · split at e
    · rename_i z
      cases e
      exact ⟨⟨rfl, fun _ => hi z.2, (fun z => by cases z)⟩, w⟩
    · split at e
      · split at e
        · cases e
          exact Wf.keep (O := C) rfl w
        · cases e
      · split at e
        · cases e
        · split at e
          · cases e
          · cases e
            exact Wf.push w
theorem Wf.rdGo {rest : List Nat} {lk : Bool} : ∀ {m : Nat} {S S' : List Pt}, Wf S → K04.rdGo rest lk m S = some S' → Wf S'
  | 0, [], S', w, e => w.elim
  | 0, C :: q, S', w, e => by
    unfold K04.rdGo at e
    split at e
    · cases e
    · rename_i z
      exact Wf.act w (fun y => absurd y z) (fun y => by cases y) e
  | 1, [], S', w, e => w.elim
  | 1, [T], S', w, e => by cases e
  | 1, T :: O :: r, S', w, e => by
    unfold K04.rdGo at e
    split at e
    · rename_i z
      refine Wf.act w.abs (fun y => ?_) (fun y => ?_) e
      · have z2 : T.kd.isHand = true := by rw [z, y]; exact decide_eq_true rfl
        cases k : T.kd with
        | cho h => exact ⟨O.rows, h, T.rows, by show absRows T.kd T.rows O.rows = _; rw [k]; rfl⟩
        | _ => rw [k] at z2; cases z2
      · have y2 : T.kd.isIf = true := y
        cases k : T.kd with
        | ifk t => exact ⟨O.rows, t, T.rows, [], by show absRows T.kd T.rows O.rows = _; rw [k]; rfl⟩
        | _ => rw [k] at y2; cases y2
    · cases e
  | m + 2, [], S', w, e => w.elim
  | m + 2, [T], S', w, e => by cases e
  | m + 2, T :: O :: r, S', w, e => by
    unfold K04.rdGo at e
    split at e
    · cases e
    · exact Wf.rdGo (m := m + 1) w.abs e
theorem Wf.rd {S S' : List Pt} {l : List Nat} (w : Wf S) (e : K04.rd S l = some S') : Wf S' := by
  obtain ⟨T, r, rfl⟩ := w.ne
  unfold K04.rd at e
  dsimp only at e
  split at e
  · cases e
  · exact Wf.rdGo w e
/-! ### what was read, as lines -/
def headL (d : Nat) : Kd → List (List Nat)
  | .prog => []
  | .ifk t => [ind d ++ (cs "if " ++ teL t)]
  | .cho h => [ind d ++ tl (hand h)]
  | .rep k => [ind d ++ (cs "repeat " ++ numL' k)]
  | .els => [ind d ++ cs "else"]
  | .orr => [ind d ++ cs "or"]
def bodyL (d : Nat) (p : Pt) : List (List Nat) := if p.over then [ind d ++ cs "pass"] else Sm.liness d p.rows
def ren : List Pt → List (List Nat)
  | [] => []
  | T :: r => ren r ++ (headL (r.length - 1) T.kd ++ bodyL r.length T)
theorem liness_one (d : Nat) (s : Sm) : Sm.liness d [s] = s.lines d := by show s.lines d ++ [] = _; rw [List.append_nil]
theorem isEmpty_nil {α : Type} {l : List α} (h : l.isEmpty = true) : l = [] := List.isEmpty_iff.mp h
theorem part_body {T : Pt} {d : Nat} (h : T.lacks = false) (hp : T.kd.isProg = false) (ho : T.over = true → T.rows = []) : partL d T.rows = bodyL d T := by
  unfold partL bodyL
  unfold Pt.lacks at h
  rw [hp] at h
  cases e : T.over with
  | true => rw [ho e]; rfl
  | false =>
    rw [e] at h
    cases e2 : T.rows.isEmpty with
    | true => rw [e2] at h; cases h
    | false => rfl
/-- a block that has all it wants ends: the lines stay -/
theorem ren_abs {T O : Pt} {r : List Pt} (h : T.lacks = false) (f : Fits T O) (ho : T.over = true → T.rows = []) (hO : O.over = false) (hs : T.kd = .els → T.over = false ∧ ∃ a t y, O.rows = a ++ [.ift t y []]) :
    ren (absorb T O :: r) = ren (T :: O :: r) := by
  have pb := part_body (d := r.length + 1) h f.1 ho
  have eb : bodyL r.length (absorb T O) = Sm.liness r.length (absRows T.kd T.rows O.rows) := by
    unfold bodyL
    show (if O.over = true then _ else _) = _
    rw [hO]
    rfl
  have eo : bodyL r.length O = Sm.liness r.length O.rows := by unfold bodyL; rw [hO]; rfl
  show ren r ++ (headL (r.length - 1) O.kd ++ bodyL r.length (absorb T O)) = (ren r ++ (headL (r.length - 1) O.kd ++ bodyL r.length O)) ++ (headL ((O :: r).length - 1) T.kd ++ bodyL (O :: r).length T)
  rw [eb, eo, List.length_cons, Nat.add_sub_cancel, ← pb]
  rw [List.append_assoc, List.append_assoc]
  refine congrArg (ren r ++ ·) (congrArg (headL (r.length - 1) O.kd ++ ·) ?_)
  cases k : T.kd with
  | prog => have := f.1; rw [k] at this; cases this
  | ifk t =>
    show Sm.liness _ (O.rows ++ [.ift t T.rows []]) = _
    rw [liness_app, liness_one]
    unfold Sm.lines
    simp [headL, liL, partL]
  | cho b =>
    show Sm.liness _ (O.rows ++ [.half b T.rows]) = _
    rw [liness_app, liness_one]
    unfold Sm.lines
    simp [headL, liL, partL]
  | rep n =>
    show Sm.liness _ (O.rows ++ [.rep n T.rows]) = _
    rw [liness_app, liness_one]
    unfold Sm.lines
    simp [headL, liL, partL]
  | els =>
    obtain ⟨ov, a, t, y, e⟩ := hs k
    have ne : T.rows.isEmpty = false := by
      unfold Pt.lacks at h
      rw [f.1, ov] at h
      cases e2 : T.rows.isEmpty with
      | true => rw [e2] at h; cases h
      | false => rfl
    show Sm.liness _ (mapLast (addNo T.rows) O.rows) = _
    rw [e, mapLast_app, liness_app, liness_one, liness_app, liness_one]
    simp only [addNo]
    unfold Sm.lines
    simp [headL, liL, partL, ne]
  | orr =>
    obtain ⟨a, b, x, e⟩ := f.2.2 k
    show Sm.liness _ (mapLast (addOther T.rows) O.rows) = _
    rw [e, mapLast_app, liness_app, liness_one, liness_app, liness_one]
    simp only [addOther]
    unfold Sm.lines
    simp [headL, liL, partL]
end K04
/-! text P4 -/
set_option Elab.async false
set_option linter.all false
set_option maxRecDepth 100000
set_option maxHeartbeats 4000000
/-! A program's lines, read one by one: each beginning is read, and is the text of what it tells -/
namespace K04
open PySem TL
/-- an open block, with what is still to come in it, and the block that is still to come behind it (else, or) -/
structure Lv where
  pt : Pt
  todo : List Sm
  pend : List Sm
def pendL (d : Nat) (l : Lv) : List (List Nat) := match l.pt.kd with
  | .ifk _ => if l.pend.isEmpty then [] else (ind (d - 1) ++ cs "else") :: Sm.liness d l.pend
  | .cho _ => (ind (d - 1) ++ cs "or") :: partL d l.pend
  | _ => []
def ownT (d : Nat) (l : Lv) : List (List Nat) := if l.pt.lacks && l.todo.isEmpty then [ind d ++ cs "pass"] else Sm.liness d l.todo
def below : List Lv → List (List Nat)
  | [] => []
  | l :: r => Sm.liness r.length l.todo ++ (pendL r.length l ++ below r)
def rem : List Lv → List (List Nat)
  | [] => []
  | l :: r => ownT r.length l ++ (pendL r.length l ++ below r)
structure GT (d : Nat) (l : Lv) : Prop where
  todo : Sm.goods d l.todo = true
  pend : Sm.goods d l.pend = true
  ov : l.pt.over = true → l.pt.rows = [] ∧ l.todo = []
def GoodL : List Lv → Prop
  | [] => False
  | [b] => b.pt.kd = .prog ∧ GT 0 b ∧ b.pt.over = false
  | T :: O :: r => GT (r.length + 1) T ∧ Fits T.pt O.pt ∧ O.pt.over = false ∧ (T.pt.kd = .els → T.pt.over = false ∧ ∃ a t y, O.pt.rows = a ++ [.ift t y []]) ∧ GoodL (O :: r)
def TopOk : List Lv → Prop
  | [] => False
  | l :: _ => l.pt.kd = .els → l.pt.rows ≠ [] ∨ l.todo ≠ []
def pts (L : List Lv) : List Pt := L.map (·.pt)
def fullRows (k : Kd) (b pend rows : List Sm) : List Sm := match k with
  | .els => mapLast (addNo b) rows
  | .orr => mapLast (addOther b) rows
  | .ifk t => rows ++ [.ift t b pend]
  | .cho h => rows ++ [.cho h b pend]
  | .rep k => rows ++ [.rep k b]
  | .prog => rows
/-- the whole program of which this is a beginning -/
def full : List Lv → List Sm
  | [] => []
  | [l] => l.pt.rows ++ l.todo
  | T :: O :: r => full ({ O with pt := { O.pt with rows := fullRows T.pt.kd (T.pt.rows ++ T.todo) T.pend O.pt.rows } } :: r)
termination_by l => l.length
theorem full_one (l : Lv) : full [l] = l.pt.rows ++ l.todo := by simp only [full]
theorem full_two (T O : Lv) (r : List Lv) : full (T :: O :: r) = full ({ O with pt := { O.pt with rows := fullRows T.pt.kd (T.pt.rows ++ T.todo) T.pend O.pt.rows } } :: r) := by rw [full]
theorem full_top {l1 l2 : Lv} {r : List Lv} (h1 : l1.pt.kd = l2.pt.kd) (h2 : l1.pend = l2.pend) (h3 : l1.pt.rows ++ l1.todo = l2.pt.rows ++ l2.todo) : full (l1 :: r) = full (l2 :: r) := by
  cases r with
  | nil => rw [full_one, full_one, h3]
  | cons O r => rw [full_two, full_two, h1, h2, h3]
theorem good_ok {d : Nat} {s : Sm} (h : s.good d = true) : s.ok = true := by
  cases s <;> simp_all [Sm.good, Sm.ok]
theorem goods_cons {d : Nat} {s : Sm} {r : List Sm} (h : Sm.goods d (s :: r) = true) : s.good d = true ∧ Sm.goods d r = true := by
  simpa [Sm.goods, Bool.and_eq_true] using h
/-! ### what a line is -/
theorem lst_ind (D : Nat) {t : List Nat} (h : t.head? ≠ some 32) : lst (ind D ++ t) = t := by
  unfold lst ind
  have a : ∀ n : Nat, (List.replicate n 32 ++ t).dropWhile (· == 32) = t := by
    intro n
    induction n with
    | zero =>
      cases t with
      | nil => rfl
      | cons c r =>
        rw [List.replicate_zero, List.nil_append, List.dropWhile_cons, if_neg]
        intro z
        exact h (congrArg some (eq_of_beq z))
    | succ n ih =>
      rw [List.replicate_succ, List.cons_append, List.dropWhile_cons, if_pos (show ((32 : Nat) == 32) = true from rfl), ih]
  exact a _
theorem ahead_ind (D : Nat) {t : List Nat} (h : t.head? ≠ some 32) : ahead (ind D ++ t) = 2 * D := by
  unfold ahead
  rw [lst_ind D h, List.length_append]
  simp [ind]
theorem rd_ind {T : Pt} {r : List Pt} {D : Nat} {t : List Nat} (h : t.head? ≠ some 32) (hD : D ≤ r.length) (hl : T.lacks = true → D = r.length) : rd (T :: r) (ind D ++ t) = rdGo t T.lacks (r.length - D) (T :: r) := by
  unfold rd
  dsimp only
  rw [ahead_ind D h, lst_ind D h, if_neg, show 2 * D / 2 = D by omega]
  rw [show 2 * D / 2 = D by omega]
  intro z
  rcases z with z | z | z
  · omega
  · omega
  · exact z.2 (hl z.1)
theorem liL_ne {s : Sm} (h : s.ok = true) : liL s ≠ cs "or" ∧ liL s ≠ cs "else" ∧ liL s ≠ cs "pass" := by
  have r := stOf_read h
  refine ⟨fun z => ?_, fun z => ?_, fun z => ?_⟩
  · rw [z, show stOf (cs "or") = none by decide +kernel] at r; cases r
  · rw [z, show stOf (cs "else") = none by decide +kernel] at r; cases r
  · rw [z, show stOf (cs "pass") = none by decide +kernel] at r; cases r
theorem liL_head (s : Sm) : ∃ c r, liL s = c :: r ∧ c ≠ 32 := by
  have a : ∀ (w : String) (r : List Nat) (c : Nat) (q : List Nat), cs w = c :: q → c ≠ 32 → ∃ c' r', cs w ++ r = c' :: r' ∧ c' ≠ 32 := fun w r c q e hc => ⟨c, q ++ r, by rw [e]; rfl, hc⟩
  cases s with
  | set x e => exact a "set " _ 115 [101, 116, 32] (by decide +kernel) (by decide)
  | pay e => exact a "pay " _ 112 [97, 121, 32] (by decide +kernel) (by decide)
  | stop => exact ⟨115, [116, 111, 112], by decide +kernel, by decide⟩
  | ift t y n => exact a "if " _ 105 [102, 32] (by decide +kernel) (by decide)
  | cho b x y =>
    cases b with
    | true => exact ⟨119, [101], by show tl (hand true) = _; decide +kernel, by decide⟩
    | false => exact ⟨116, [104, 101, 121], by show tl (hand false) = _; decide +kernel, by decide⟩
  | rep k b => exact a "repeat " _ 114 [101, 112, 101, 97, 116, 32] (by decide +kernel) (by decide)
  | half b x =>
    cases b with
    | true => exact ⟨119, [101], by show tl (hand true) = _; decide +kernel, by decide⟩
    | false => exact ⟨116, [104, 101, 121], by show tl (hand false) = _; decide +kernel, by decide⟩
theorem liL_hd (s : Sm) : (liL s).head? ≠ some 32 ∧ liL s ≠ [] := by
  obtain ⟨c, r, e, h⟩ := liL_head s
  rw [e]
  exact ⟨fun z => h (Option.some.inj z), fun z => by cases z⟩
theorem act_k {rest : List Nat} {lk : Bool} {k0 : Option Kd} {S : List Pt} (h : rest ≠ cs "else") : act rest lk k0 S = act rest lk none S := by
  cases S with
  | nil => rfl
  | cons C q =>
    unfold act
    dsimp only
    rw [if_neg (c := rest = cs "else" ∧ (k0.map Kd.isIf).getD false = true) (fun z => h z.1), if_neg (c := rest = cs "else" ∧ ((none : Option Kd).map Kd.isIf).getD false = true) (fun z => h z.1)]
theorem rd_stmt {T : Pt} {r : List Pt} {s : Sm} (h : s.ok = true) (ho : T.over = false) : rd (T :: r) (ind r.length ++ liL s) = some (push s.hd T r) := by
  obtain ⟨n1, n2, n3⟩ := liL_ne h
  rw [rd_ind (liL_hd s).1 (Nat.le_refl _) (fun _ => rfl), Nat.sub_self]
  unfold rdGo
  rw [if_neg n1]
  unfold act
  dsimp only
  rw [if_neg n1, if_neg (fun z => n2 z.1), if_neg n3, ho, if_neg (by decide), stOf_read h]
/-- a block that has all it wants, and no choice: lines behind it are read as if it had ended -/
theorem rd_pop {T O : Pt} {q : List Pt} {D : Nat} {t : List Nat} (h : t.head? ≠ some 32) (hl : T.lacks = false) (hh : T.kd.isHand = false) (ha : (absorb T O).lacks = false) (hD : D ≤ q.length) (hn : D = q.length → t ≠ cs "else" ∧ t ≠ cs "or") :
    rd (T :: O :: q) (ind D ++ t) = rd (absorb T O :: q) (ind D ++ t) := by
  rw [rd_ind h (by rw [List.length_cons]; omega) (fun z => by rw [hl] at z; cases z), rd_ind h hD (fun z => by rw [ha] at z; cases z), hl, ha, List.length_cons]
  by_cases e : D = q.length
  · obtain ⟨h1, h2⟩ := hn e
    rw [e, show q.length + 1 - q.length = 1 by omega, Nat.sub_self]
    unfold rdGo
    rw [hh, if_pos (decide_eq_false h2).symm, if_neg h2, act_k h1]
  · obtain ⟨m, hm⟩ : ∃ m, q.length - D = m + 1 := ⟨q.length - D - 1, by omega⟩
    rw [show q.length + 1 - D = m + 2 by omega, hm]
    conv => lhs; unfold rdGo
    rw [hh, if_neg (by decide)]
/-! ### the levels -/
theorem len_pts (L : List Lv) : (pts L).length = L.length := List.length_map _
theorem GoodL.keep {O : Lv} {r : List Lv} {p : Pt} {td : List Sm} (h : GoodL (O :: r)) (hk : p.kd = O.pt.kd) (ho : p.over = false) (ht : Sm.goods r.length td = true) : GoodL (⟨p, td, O.pend⟩ :: r) := by
  cases r with
  | nil => exact ⟨hk.trans h.1, ⟨ht, h.2.1.pend, fun z => by rw [ho] at z; cases z⟩, ho⟩
  | cons Q r =>
    obtain ⟨g, f, o, e, k⟩ := h
    refine ⟨⟨ht, g.pend, fun z => by rw [show p.over = true from z] at ho; cases ho⟩, ⟨by show p.kd.isProg = false; rw [hk]; exact f.1, fun z => f.2.1 (hk.symm.trans z), fun z => f.2.2 (hk.symm.trans z)⟩, o, fun z => ⟨ho, (e (hk.symm.trans z)).2⟩, k⟩
theorem GoodL.todo_good {l : Lv} {r : List Lv} (h : GoodL (l :: r)) : Sm.goods r.length l.todo = true := by
  cases r with
  | nil => exact h.2.1.todo
  | cons Q r => exact h.1.todo
theorem GoodL.pend_good {l : Lv} {r : List Lv} (h : GoodL (l :: r)) : Sm.goods r.length l.pend = true := by
  cases r with
  | nil => exact h.2.1.pend
  | cons Q r => exact h.1.pend
theorem GoodL.ov {l : Lv} {r : List Lv} (h : GoodL (l :: r)) : l.pt.over = true → l.pt.rows = [] ∧ l.todo = [] := by
  cases r with
  | nil => exact h.2.1.ov
  | cons Q r => exact h.1.ov
theorem Wf.of : ∀ {L : List Lv}, GoodL L → Wf (pts L)
  | [], h => h.elim
  | [b], h => h.1
  | T :: O :: r, h => ⟨h.2.1, Wf.of (L := O :: r) h.2.2.2.2⟩
theorem absRows_ne {T O : Pt} (f : Fits T O) : absRows T.kd T.rows O.rows ≠ [] := by
  cases k : T.kd with
  | prog => have := f.1; rw [k] at this; cases this
  | ifk t => simp [absRows]
  | cho h => simp [absRows]
  | rep n => simp [absRows]
  | els =>
    obtain ⟨a, t, y, n, e⟩ := f.2.1 k
    rw [e]
    simp [absRows, mapLast_app]
  | orr =>
    obtain ⟨a, h, x, e⟩ := f.2.2 k
    rw [e]
    simp [absRows, mapLast_app]
theorem abs_lacks {T O : Pt} (f : Fits T O) : (absorb T O).lacks = false := by
  have h := absRows_ne f
  have e : (absorb T O).rows.isEmpty = false := by
    cases q : (absorb T O).rows with
    | nil => exact absurd q h
    | cons a b => rfl
  unfold Pt.lacks
  rw [e]
  simp
theorem liness_nil {d : Nat} {s : Sm} {r : List Sm} : Sm.liness d (s :: r) ≠ [] := by
  intro z
  have e : Sm.liness d (s :: r) = s.lines d ++ Sm.liness d r := rfl
  rw [e] at z
  have h := (List.append_eq_nil_iff.mp z).1
  cases s <;> simp [Sm.lines] at h
structure Step (L : List Lv) (l0 : List Nat) (rest : List (List Nat)) (L' : List Lv) (D : Nat) (t : List Nat) : Prop where
  line : l0 = ind D ++ t
  hd : t.head? ≠ some 32
  ne : t ≠ []
  lt : D < L.length
  top : D + 1 = L.length → t ≠ cs "else" ∧ t ≠ cs "or"
  rd : rd (pts L) l0 = some (pts L')
  good : GoodL L'
  tok : TopOk L'
  rem : rem L' = rest
  full : full L' = full L
  ren : ren (pts L') = ren (pts L) ++ [l0]
theorem step_stmt {l : Lv} {r : List Lv} {s : Sm} {ts : List Sm} (g : GoodL (l :: r)) (e : l.todo = s :: ts) :
    ∃ L', Step (l :: r) (ind r.length ++ liL s) ((s.lines r.length).tail ++ (Sm.liness r.length ts ++ (pendL r.length l ++ below r))) L' r.length (liL s) := by
  have gt := g.todo_good
  rw [e] at gt
  obtain ⟨gs, gts⟩ := goods_cons gt
  have ok := good_ok gs
  have ho : l.pt.over = false := by
    cases q : l.pt.over with
    | false => rfl
    | true => have := (g.ov q).2; rw [e] at this; cases this
  have hrd := rd_stmt (T := l.pt) (r := pts r) ok ho
  rw [len_pts] at hrd
  have hne := liL_ne ok
  have hhd := liL_hd s
  have simp_case : ∀ s' : Sm, s = s' → push s.hd l.pt (pts r) = { l.pt with rows := l.pt.rows ++ [s] } :: pts r → s.lines r.length = [ind r.length ++ liL s] → (s.simple = true) →
      ∃ L', Step (l :: r) (ind r.length ++ liL s) ((s.lines r.length).tail ++ (Sm.liness r.length ts ++ (pendL r.length l ++ below r))) L' r.length (liL s) := by
    intro s' _ hp hli _
    refine ⟨⟨{ l.pt with rows := l.pt.rows ++ [s] }, ts, l.pend⟩ :: r, ⟨rfl, hhd.1, hhd.2, Nat.lt_succ_self _, fun _ => ⟨hne.2.1, hne.1⟩, ?_, g.keep rfl ho gts, fun _ => .inl (by simp), ?_, ?_, ?_⟩⟩
    · show K04.rd (l.pt :: pts r) _ = _
      rw [hrd, hp]
      rfl
    · have nl : ({ l.pt with rows := l.pt.rows ++ [s] } : Pt).lacks = false := by
        unfold Pt.lacks
        simp
      show ownT r.length _ ++ (pendL r.length _ ++ below r) = _
      unfold ownT
      rw [nl, hli]
      rfl
    · refine full_top rfl rfl ?_
      show (l.pt.rows ++ [s]) ++ ts = l.pt.rows ++ l.todo
      rw [e, List.append_assoc]
      rfl
    · show ren (pts r) ++ (headL ((pts r).length - 1) l.pt.kd ++ bodyL (pts r).length _) = (ren (pts r) ++ (headL ((pts r).length - 1) l.pt.kd ++ bodyL (pts r).length l.pt)) ++ _
      unfold bodyL
      rw [ho, len_pts]
      show _ = _
      simp only [if_neg (show ¬ (false = true) from Bool.false_ne_true)]
      rw [liness_app, liness_one, hli]
      simp [List.append_assoc]
  have comp_case : ∀ (k : Kd) (y no : List Sm), push s.hd l.pt (pts r) = Pt.new k :: l.pt :: pts r → k.isProg = false → k ≠ .els → k ≠ .orr → Sm.goods (r.length + 1) y = true → Sm.goods (r.length + 1) no = true →
      headL r.length k = [ind r.length ++ liL s] → (s.lines r.length).tail = partL (r.length + 1) y ++ pendL (r.length + 1) ⟨Pt.new k, y, no⟩ → (∀ rows, fullRows k ([] ++ y) no rows = rows ++ [s]) →
      ∃ L', Step (l :: r) (ind r.length ++ liL s) ((s.lines r.length).tail ++ (Sm.liness r.length ts ++ (pendL r.length l ++ below r))) L' r.length (liL s) := by
    intro k y no hp h1 h2 h3 gy gn hh ht hf
    refine ⟨⟨Pt.new k, y, no⟩ :: ⟨l.pt, ts, l.pend⟩ :: r, ⟨rfl, hhd.1, hhd.2, Nat.lt_succ_self _, fun _ => ⟨hne.2.1, hne.1⟩, ?_, ?_, fun z => absurd z h2, ?_, ?_, ?_⟩⟩
    · show K04.rd (l.pt :: pts r) _ = _
      rw [hrd, hp]
      rfl
    · exact ⟨⟨gy, gn, fun z => by cases z⟩, ⟨h1, fun z => absurd z h2, fun z => absurd z h3⟩, ho, fun z => absurd z h2, g.keep rfl ho gts⟩
    · have lk : (Pt.new k).lacks = true := by
        unfold Pt.lacks Pt.new
        rw [h1]
        rfl
      show ownT (r.length + 1) ⟨Pt.new k, y, no⟩ ++ (pendL (r.length + 1) ⟨Pt.new k, y, no⟩ ++ (Sm.liness r.length ts ++ (pendL r.length ⟨l.pt, ts, l.pend⟩ ++ below r))) = _
      have o : ownT (r.length + 1) ⟨Pt.new k, y, no⟩ = partL (r.length + 1) y := by
        unfold ownT partL
        rw [lk]
        rfl
      rw [o, ht, List.append_assoc]
      rfl
    · rw [full_two]
      refine full_top rfl rfl ?_
      show fullRows k ([] ++ y) no l.pt.rows ++ ts = l.pt.rows ++ l.todo
      rw [hf, e, List.append_assoc]
      rfl
    · show ren (l.pt :: pts r) ++ (headL ((l.pt :: pts r).length - 1) k ++ bodyL (l.pt :: pts r).length (Pt.new k)) = ren (l.pt :: pts r) ++ _
      rw [List.length_cons, Nat.add_sub_cancel, len_pts, hh]
      rfl
  cases s with
  | set x ee => exact simp_case _ rfl rfl rfl rfl
  | pay ee => exact simp_case _ rfl rfl rfl rfl
  | stop => exact simp_case _ rfl rfl rfl rfl
  | half b a => cases ok
  | ift t y no =>
    simp only [Sm.good, Bool.and_eq_true] at gs
    refine comp_case (.ifk t) y no rfl rfl (fun z => by cases z) (fun z => by cases z) gs.1.2 gs.2 rfl ?_ (fun rows => rfl)
    show (if y.isEmpty then _ else _) ++ (if no.isEmpty then _ else _) = _
    rfl
  | cho b x y =>
    simp only [Sm.good, Bool.and_eq_true] at gs
    refine comp_case (.cho b) x y rfl rfl (fun z => by cases z) (fun z => by cases z) gs.1.2 gs.2 rfl ?_ (fun rows => rfl)
    rfl
  | rep k y =>
    simp only [Sm.good, Bool.and_eq_true] at gs
    refine comp_case (.rep k) y [] rfl rfl (fun z => by cases z) (fun z => by cases z) gs.2 rfl rfl ?_ (fun rows => rfl)
    show (if y.isEmpty then _ else _) = _ ++ []
    rw [List.append_nil]
    rfl
end K04
/-! text P5 -/
set_option Elab.async false
set_option linter.all false
set_option maxRecDepth 100000
set_option maxHeartbeats 4000000
/-! The steps, joined: all beginnings of a program's lines -/
namespace K04
open PySem TL
theorem Step.of_eq {L : List Lv} {l0 : List Nat} {rest rest' : List (List Nat)} {L' : List Lv} {D : Nat} {t : List Nat} (s : Step L l0 rest L' D t) (e : rest = rest') : Step L l0 rest' L' D t := by rw [← e]; exact s
/-- a block that has all it wants ends -/
theorem pop_good {T O : Lv} {q : List Lv} (g : GoodL (T :: O :: q)) : GoodL (⟨absorb T.pt O.pt, O.todo, O.pend⟩ :: q) := by
  obtain ⟨_, _, o, _, k⟩ := g
  exact k.keep rfl o k.todo_good
theorem els_line (D : Nat) : (ind D ++ cs "else") = ind D ++ cs "else" := rfl
theorem step_close {T O : Lv} {q : List Lv} (g : GoodL (T :: O :: q)) (hl : T.pt.lacks = false) (ht : T.todo = []) (k' : Kd) (t : List Nat)
    (hk : (T.pt.kd.isIf = true ∧ k' = .els ∧ t = cs "else" ∧ T.pend ≠ []) ∨ (T.pt.kd.isHand = true ∧ k' = .orr ∧ t = cs "or")) :
    ∃ L', Step (T :: O :: q) (ind q.length ++ t) ((if k'.isElse then Sm.liness (q.length + 1) T.pend else partL (q.length + 1) T.pend) ++ below (O :: q)) L' q.length t := by
  obtain ⟨gt, f, o, els, k⟩ := id g
  have hf : t.head? ≠ some 32 ∧ t ≠ [] := by
    rcases hk with ⟨_, _, e, _⟩ | ⟨_, _, e⟩ <;> rw [e] <;> exact ⟨by decide +kernel, by decide +kernel⟩
  have hrd : rd (pts (T :: O :: q)) (ind q.length ++ t) = some (Pt.new k' :: absorb T.pt O.pt :: pts q) := by
    show rd (T.pt :: O.pt :: pts q) _ = _
    have lq : (pts q).length = q.length := len_pts q
    rw [rd_ind hf.1 (by rw [List.length_cons, lq]; omega) (fun z => by rw [hl] at z; cases z), hl, List.length_cons, lq, show q.length + 1 - q.length = 1 by omega]
    unfold rdGo
    rcases hk with ⟨h1, h2, h3, _⟩ | ⟨h1, h2, h3⟩
    · have hh : T.pt.kd.isHand = false := by
        cases e : T.pt.kd with
        | cho b => rw [e] at h1; cases h1
        | _ => rfl
      rw [hh, h3, if_pos (by decide +kernel)]
      unfold act
      dsimp only
      rw [if_neg (by decide +kernel), if_pos ⟨rfl, by show T.pt.kd.isIf = true; exact h1⟩, h2]
    · rw [h1, h3, if_pos (by decide +kernel)]
      unfold act
      dsimp only
      rw [if_pos rfl, h2]
  have hn : k'.isProg = false := by rcases hk with ⟨_, h, _⟩ | ⟨_, h, _⟩ <;> rw [h] <;> rfl
  have hov : T.pt.over = true → T.pt.rows = [] := fun z => (g.ov z).1
  have hels : T.pt.kd = .els → T.pt.over = false ∧ ∃ a t y, O.pt.rows = a ++ [.ift t y []] := els
  refine ⟨⟨Pt.new k', T.pend, []⟩ :: ⟨absorb T.pt O.pt, O.todo, O.pend⟩ :: q, ⟨rfl, hf.1, hf.2, by show q.length < q.length + 1 + 1; omega, fun z => by exfalso; have z' : q.length + 1 = q.length + 1 + 1 := z; omega, hrd, ?_, ?_, ?_, ?_, ?_⟩⟩
  · refine ⟨⟨gt.pend, rfl, fun z => by cases z⟩, ⟨hn, fun z => ?_, fun z => ?_⟩, o, fun z => ⟨rfl, ?_⟩, pop_good g⟩
    · rcases hk with ⟨h1, _⟩ | ⟨_, h, _⟩
      · cases e : T.pt.kd with
        | ifk t' => exact ⟨O.pt.rows, t', T.pt.rows, [], by show absRows T.pt.kd T.pt.rows O.pt.rows = _; rw [e]; rfl⟩
        | _ => rw [e] at h1; cases h1
      · rw [show k' = .els from z] at h; cases h
    · rcases hk with ⟨_, h, _⟩ | ⟨h1, _⟩
      · rw [show k' = .orr from z] at h; cases h
      · cases e : T.pt.kd with
        | cho b => exact ⟨O.pt.rows, b, T.pt.rows, by show absRows T.pt.kd T.pt.rows O.pt.rows = _; rw [e]; rfl⟩
        | _ => rw [e] at h1; cases h1
    · rcases hk with ⟨h1, _⟩ | ⟨_, h, _⟩
      · cases e : T.pt.kd with
        | ifk t' => exact ⟨O.pt.rows, t', T.pt.rows, by show absRows T.pt.kd T.pt.rows O.pt.rows = _; rw [e]; rfl⟩
        | _ => rw [e] at h1; cases h1
      · rw [show k' = .els from z] at h; cases h
  · intro z
    rcases hk with ⟨_, _, _, h⟩ | ⟨_, h, _⟩
    · exact .inr h
    · rw [show k' = .els from z] at h; cases h
  · have lk : (Pt.new k').lacks = true := by
      unfold Pt.lacks Pt.new
      rw [hn]
      rfl
    show ownT (q.length + 1) ⟨Pt.new k', T.pend, []⟩ ++ (pendL (q.length + 1) ⟨Pt.new k', T.pend, []⟩ ++ below (O :: q)) = _
    have p0 : pendL (q.length + 1) ⟨Pt.new k', T.pend, []⟩ = [] := by
      rcases hk with ⟨_, h, _⟩ | ⟨_, h, _⟩ <;> rw [h] <;> rfl
    rw [p0, List.nil_append]
    unfold ownT
    rw [lk]
    rcases hk with ⟨_, h, _, h2⟩ | ⟨_, h, _⟩
    · rw [h]
      have : T.pend.isEmpty = false := by cases e : T.pend with | nil => exact absurd e h2 | cons a b => rfl
      rw [this]
      rfl
    · rw [h]
      rfl
  · rw [full_two, full_two]
    refine full_top rfl rfl ?_
    show fullRows k' ([] ++ T.pend) [] (absRows T.pt.kd T.pt.rows O.pt.rows) ++ O.todo = fullRows T.pt.kd (T.pt.rows ++ T.todo) T.pend O.pt.rows ++ O.todo
    rw [ht, List.append_nil]
    refine congrArg (· ++ O.todo) ?_
    rcases hk with ⟨h1, h2, _⟩ | ⟨h1, h2, _⟩
    · cases e : T.pt.kd with
      | ifk t' =>
        rw [h2]
        show mapLast (addNo T.pend) (O.pt.rows ++ [.ift t' T.pt.rows []]) = _
        rw [mapLast_app]
        rfl
      | _ => rw [e] at h1; cases h1
    · cases e : T.pt.kd with
      | cho b =>
        rw [h2]
        show mapLast (addOther T.pend) (O.pt.rows ++ [.half b T.pt.rows]) = _
        rw [mapLast_app]
        rfl
      | _ => rw [e] at h1; cases h1
  · have ra := ren_abs (r := pts q) hl f hov o hels
    show ren (absorb T.pt O.pt :: pts q) ++ (headL ((absorb T.pt O.pt :: pts q).length - 1) k' ++ bodyL (absorb T.pt O.pt :: pts q).length (Pt.new k')) = ren (T.pt :: O.pt :: pts q) ++ _
    rw [ra, List.length_cons, Nat.add_sub_cancel, len_pts]
    refine congrArg (ren (T.pt :: O.pt :: pts q) ++ ·) ?_
    rcases hk with ⟨_, h2, h3, _⟩ | ⟨_, h2, h3⟩ <;> rw [h2, h3] <;> rfl
theorem step : ∀ (n : Nat) (L : List Lv), L.length = n → GoodL L → TopOk L → ∀ l0 rest, rem L = l0 :: rest → ∃ L' D t, Step L l0 rest L' D t
  | _, [], _, g, _, _, _, _ => g.elim
  | n, l :: r, hn, g, tk, l0, rest, hr => by
    have hr' : ownT r.length l ++ (pendL r.length l ++ below r) = l0 :: rest := hr
    by_cases hA : (l.pt.lacks && l.todo.isEmpty) = true
    · -- pass
      have hA2 := Bool.and_eq_true_iff.mp hA
      have lk := hA2.1
      have td := isEmpty_nil hA2.2
      unfold ownT at hr'
      rw [if_pos hA] at hr'
      obtain ⟨e1, e2⟩ : ind r.length ++ cs "pass" = l0 ∧ pendL r.length l ++ below r = rest := by simpa using hr'
      subst e1; subst e2
      have lk2 := lk
      unfold Pt.lacks at lk2
      have lk3 := Bool.and_eq_true_iff.mp lk2
      have lk4 := Bool.and_eq_true_iff.mp lk3.2
      have rw0 := isEmpty_nil lk4.1
      have ov0 : l.pt.over = false := by simpa using lk4.2
      have ne : l.pt.kd.isElse = false := by
        cases e : l.pt.kd with
        | els =>
          rcases tk e with z | z
          · exact absurd rw0 z
          · exact absurd td z
        | _ => rfl
      have np : l.pt.kd.isProg = false := by simpa using lk3.1
      refine ⟨⟨{ l.pt with over := true }, l.todo, l.pend⟩ :: r, r.length, cs "pass", ⟨rfl, by decide +kernel, by decide +kernel, Nat.lt_succ_self _, fun _ => ⟨by decide +kernel, by decide +kernel⟩, ?_, ?_, ?_, ?_, ?_, ?_⟩⟩
      · show K04.rd (l.pt :: pts r) _ = _
        have lr : (pts r).length = r.length := len_pts r
        rw [rd_ind (by decide +kernel) (by rw [lr]; exact Nat.le_refl _) (fun _ => lr.symm), lr, Nat.sub_self]
        unfold rdGo
        rw [if_neg (by decide +kernel)]
        unfold act
        dsimp only
        rw [if_neg (by decide +kernel), if_neg (fun z => by cases z.2), if_pos rfl, if_pos ⟨lk, ne⟩]
        rfl
      · cases r with
        | nil => rw [g.1] at np; cases np
        | cons O q =>
          obtain ⟨gt, f, o, els, k⟩ := g
          exact ⟨⟨gt.todo, gt.pend, fun _ => ⟨rw0, td⟩⟩, f, o, (fun z => by rw [show l.pt.kd = .els from z] at ne; cases ne), k⟩
      · intro z
        rw [show l.pt.kd = .els from z] at ne; cases ne
      · have nl : ({ l.pt with over := true } : Pt).lacks = false := by
          unfold Pt.lacks
          simp
        show ownT r.length _ ++ (pendL r.length _ ++ below r) = _
        unfold ownT
        rw [nl, td]
        rfl
      · exact full_top rfl rfl rfl
      · show ren (pts r) ++ (headL ((pts r).length - 1) l.pt.kd ++ bodyL (pts r).length _) = (ren (pts r) ++ (headL ((pts r).length - 1) l.pt.kd ++ bodyL (pts r).length l.pt)) ++ _
        unfold bodyL
        rw [ov0, rw0, len_pts]
        simp [Sm.liness]
    · have hA' : (l.pt.lacks && l.todo.isEmpty) = false := by simpa using hA
      unfold ownT at hr'
      rw [hA'] at hr'
      have hr2 : Sm.liness r.length l.todo ++ (pendL r.length l ++ below r) = l0 :: rest := hr'
      cases etd : l.todo with
      | cons s ts =>
        -- a statement
        obtain ⟨L', st⟩ := step_stmt g etd
        rw [etd] at hr2
        have e3 : s.lines r.length ++ (Sm.liness r.length ts ++ (pendL r.length l ++ below r)) = l0 :: rest := by
          rw [← hr2, ← List.append_assoc]
          rfl
        have hd : ∃ tl', s.lines r.length = (ind r.length ++ liL s) :: tl' := by cases s <;> exact ⟨_, rfl⟩
        obtain ⟨tl', e4⟩ := hd
        rw [e4, List.cons_append] at e3
        injection e3 with e5 e6
        rw [← e5, ← e6]
        refine ⟨L', _, _, st.of_eq ?_⟩
        rw [e4]
        rfl
      | nil =>
        have hl : l.pt.lacks = false := by
          rw [etd] at hA'
          simpa using hA'
        rw [etd] at hr2
        have hr3 : pendL r.length l ++ below r = l0 :: rest := hr2
        cases r with
        | nil =>
          have k := g.1
          unfold pendL at hr3
          rw [k] at hr3
          cases hr3
        | cons O q =>
          obtain ⟨gt, f, o, els, kk⟩ := id g
          have hov : l.pt.over = true → l.pt.rows = [] := fun z => (g.ov z).1
          -- the block ends, the next line is further out
          have further : l.pt.kd.isHand = false → pendL (O :: q).length l = [] → fullRows l.pt.kd (l.pt.rows ++ []) l.pend O.pt.rows = absRows l.pt.kd l.pt.rows O.pt.rows → ∃ L' D t, Step (l :: O :: q) l0 rest L' D t := by
            intro hh hp hf
            rw [hp] at hr3
            have hlen : (⟨absorb l.pt O.pt, O.todo, O.pend⟩ :: q : List Lv).length < n := by
              rw [← hn, List.length_cons, List.length_cons, List.length_cons]
              omega
            have al := abs_lacks f
            have hrem : rem (⟨absorb l.pt O.pt, O.todo, O.pend⟩ :: q) = l0 :: rest := by
              show ownT q.length _ ++ (pendL q.length _ ++ below q) = _
              unfold ownT
              rw [al]
              exact hr3
            obtain ⟨L', D, t, st⟩ := step (q.length + 1) (⟨absorb l.pt O.pt, O.todo, O.pend⟩ :: q) rfl (pop_good g) (fun z => .inl (absRows_ne f)) l0 rest hrem
            have hD : D ≤ q.length := Nat.le_of_lt_succ st.lt
            refine ⟨L', D, t, ⟨st.line, st.hd, st.ne, Nat.lt_succ_of_lt st.lt, fun z => by exfalso; have z' : D + 1 = q.length + 1 + 1 := z; omega, ?_, st.good, st.tok, st.rem, ?_, ?_⟩⟩
            · rw [← st.rd, st.line]
              exact rd_pop (T := l.pt) (O := O.pt) (q := pts q) st.hd hl hh al (by rw [len_pts]; exact hD) (fun z => st.top (by rw [z, len_pts]; rfl))
            · rw [st.full, full_two, etd, hf]
              rfl
            · rw [st.ren]
              have ra := ren_abs (r := pts q) hl f hov o els
              show ren (absorb l.pt O.pt :: pts q) ++ _ = ren (l.pt :: O.pt :: pts q) ++ _
              rw [ra]
          cases ek : l.pt.kd with
          | prog => have := f.1; rw [ek] at this; cases this
          | rep k => exact further (by rw [ek]; rfl) (by unfold pendL; rw [ek]) (by rw [ek, List.append_nil]; rfl)
          | els => exact further (by rw [ek]; rfl) (by unfold pendL; rw [ek]) (by rw [ek, List.append_nil]; rfl)
          | orr => exact further (by rw [ek]; rfl) (by unfold pendL; rw [ek]) (by rw [ek, List.append_nil]; rfl)
          | cho b =>
            obtain ⟨L', st⟩ := step_close g hl etd .orr (cs "or") (.inr ⟨by rw [ek]; rfl, rfl, rfl⟩)
            unfold pendL at hr3
            rw [ek] at hr3
            have e5 : ind q.length ++ cs "or" = l0 ∧ partL (q.length + 1) l.pend ++ below (O :: q) = rest := by
              have : (ind ((O :: q).length - 1) ++ cs "or") :: (partL (O :: q).length l.pend ++ below (O :: q)) = l0 :: rest := hr3
              injection this with a b
              exact ⟨a, b⟩
            rw [← e5.1, ← e5.2]
            exact ⟨L', _, _, st⟩
          | ifk t' =>
            by_cases hp : l.pend = []
            · exact further (by rw [ek]; rfl) (by unfold pendL; rw [ek, hp]; rfl) (by rw [ek, List.append_nil, hp]; rfl)
            · obtain ⟨L', st⟩ := step_close g hl etd .els (cs "else") (.inl ⟨by rw [ek]; rfl, rfl, rfl, hp⟩)
              unfold pendL at hr3
              rw [ek] at hr3
              have pe : l.pend.isEmpty = false := by cases e : l.pend with | nil => exact absurd e hp | cons a b => rfl
              have e5 : ind q.length ++ cs "else" = l0 ∧ Sm.liness (q.length + 1) l.pend ++ below (O :: q) = rest := by
                have h9 : (if l.pend.isEmpty = true then [] else (ind ((O :: q).length - 1) ++ cs "else") :: Sm.liness (O :: q).length l.pend) ++ below (O :: q) = l0 :: rest := hr3
                rw [pe] at h9
                have h10 : (ind ((O :: q).length - 1) ++ cs "else") :: (Sm.liness (O :: q).length l.pend ++ below (O :: q)) = l0 :: rest := h9
                injection h10 with a b
                exact ⟨a, b⟩
              rw [← e5.1, ← e5.2]
              exact ⟨L', _, _, st⟩
termination_by n => n
decreasing_by
  all_goals first
    | exact hlen
    | (simp_wf; omega)
    | omega
/-- all beginnings -/
theorem run_all : ∀ (m : Nat) (L : List Lv), GoodL L → TopOk L → m ≤ (rem L).length → ∃ L', runR (pts L) ((rem L).take m) = some (pts L') ∧ GoodL L' ∧ TopOk L' ∧ rem L' = (rem L).drop m ∧ full L' = full L ∧ ren (pts L') = ren (pts L) ++ (rem L).take m
  | 0, L, g, tk, _ => ⟨L, rfl, g, tk, rfl, rfl, by simp⟩
  | m + 1, L, g, tk, hm => by
    cases e : rem L with
    | nil => rw [e] at hm; exact absurd hm (Nat.not_succ_le_zero _)
    | cons l0 rest =>
      obtain ⟨L1, D, t, st⟩ := step L.length L rfl g tk l0 rest e
      rw [e] at hm
      obtain ⟨L', h1, h2, h3, h4, h5, h6⟩ := run_all m L1 st.good st.tok (by rw [st.rem]; exact Nat.le_of_succ_le_succ hm)
      rw [st.rem] at h1 h4 h6
      refine ⟨L', ?_, h2, h3, h4, h5.trans st.full, ?_⟩
      · show (match rd (pts L) l0 with | none => none | some S' => runR S' (rest.take m)) = _
        rw [st.rd]
        exact h1
      · rw [h6, st.ren]
        simp
/-! ### what a beginning tells -/
theorem fin_one (T : Pt) : fin [T] = T.rows := by simp only [fin]
theorem fin_two (T O : Pt) (r : List Pt) : fin (T :: O :: r) = fin (absorb T O :: r) := by rw [fin]
theorem fin_lines : ∀ (n : Nat) (L : List Lv), L.length = n → GoodL L → (∀ l r, L = l :: r → l.pt.lacks = false) → (∀ l ∈ L, l.pt.kd.isHand = false) → Sm.liness 0 (fin (pts L)) = ren (pts L)
  | _, [], _, g, _, _ => g.elim
  | _, [b], _, g, _, _ => by
    show Sm.liness 0 (fin [b.pt]) = [] ++ (headL 0 b.pt.kd ++ bodyL 0 b.pt)
    rw [fin_one, g.1]
    unfold bodyL
    rw [g.2.2]
    rfl
  | n, T :: O :: q, hn, g, hl, hh => by
    obtain ⟨gt, f, o, els, k⟩ := id g
    have l0 := hl T (O :: q) rfl
    have ra := ren_abs (r := pts q) l0 f (fun z => (g.ov z).1) o els
    have ih := fin_lines (n - 1) (⟨absorb T.pt O.pt, O.todo, O.pend⟩ :: q) (by rw [← hn]; rfl) (pop_good g)
      (fun l r e => by injection e with e1 _; rw [← e1]; exact abs_lacks f)
      (fun l hm => by
        rcases List.mem_cons.mp hm with e | hm
        · rw [e]; exact hh O (List.mem_cons_of_mem _ List.mem_cons_self)
        · exact hh l (List.mem_cons_of_mem _ (List.mem_cons_of_mem _ hm)))
    show Sm.liness 0 (fin (T.pt :: O.pt :: pts q)) = ren (T.pt :: O.pt :: pts q)
    rw [fin_two, ← ra]
    exact ih
termination_by n => n
decreasing_by
  have : n = q.length + 2 := by rw [← hn]; rfl
  omega
/-- the block that is open, cut; all else as it is -/
theorem fin_cut : ∀ (n : Nat) (l : Lv) (r : List Lv), r.length = n → GoodL (l :: r) → (∀ x ∈ (l :: r), x.pt.kd.isHand = false) → ∀ b', CutB b' (l.pt.rows ++ l.todo) → CutB (fin ({ l.pt with rows := b' } :: pts r)) (full (l :: r))
  | _, l, [], _, g, hh, b', h => by
    show CutB (fin [_]) _
    rw [fin_one, full_one]
    exact h
  | n, l, O :: q, hn, g, hh, b', h => by
    obtain ⟨gt, f, o, els, k⟩ := id g
    show CutB (fin (_ :: O.pt :: pts q)) _
    rw [fin_two, full_two]
    have go : GoodL (⟨{ O.pt with rows := fullRows l.pt.kd (l.pt.rows ++ l.todo) l.pend O.pt.rows }, O.todo, O.pend⟩ :: q) := k.keep rfl o k.todo_good
    have key : CutB (absRows l.pt.kd b' O.pt.rows) (fullRows l.pt.kd (l.pt.rows ++ l.todo) l.pend O.pt.rows ++ O.todo) := by
      have h0 := hh l List.mem_cons_self
      cases e : l.pt.kd with
      | prog => have := f.1; rw [e] at this; cases this
      | cho b => rw [e] at h0; cases h0
      | ifk t =>
        show CutB (O.pt.rows ++ [.ift t b' []]) (O.pt.rows ++ [.ift t (l.pt.rows ++ l.todo) l.pend] ++ O.todo)
        rw [List.append_assoc]
        exact CutB.app _ (.last _ _ _ (.ifY t b' _ _ h))
      | rep m =>
        show CutB (O.pt.rows ++ [.rep m b']) (O.pt.rows ++ [.rep m (l.pt.rows ++ l.todo)] ++ O.todo)
        rw [List.append_assoc]
        exact CutB.app _ (.last _ _ _ (.rp m b' _ h))
      | els =>
        obtain ⟨a, t, y, ea⟩ := (els e).2
        show CutB (mapLast (addNo b') O.pt.rows) (mapLast (addNo (l.pt.rows ++ l.todo)) O.pt.rows ++ O.todo)
        rw [ea, mapLast_app, mapLast_app, List.append_assoc]
        exact CutB.app _ (.last _ _ _ (.ifN t y b' _ h))
      | orr =>
        obtain ⟨a, b, x, ea⟩ := f.2.2 e
        show CutB (mapLast (addOther b') O.pt.rows) (mapLast (addOther (l.pt.rows ++ l.todo)) O.pt.rows ++ O.todo)
        rw [ea, mapLast_app, mapLast_app, List.append_assoc]
        exact CutB.app _ (.last _ _ _ (.chB b x b' _ h))
    refine fin_cut (n - 1) ⟨{ O.pt with rows := fullRows l.pt.kd (l.pt.rows ++ l.todo) l.pend O.pt.rows }, O.todo, O.pend⟩ q (by rw [← hn]; rfl) go (fun x hm => ?_) _ key
    rcases List.mem_cons.mp hm with e | hm
    · rw [e]; exact hh O (List.mem_cons_of_mem _ List.mem_cons_self)
    · exact hh x (List.mem_cons_of_mem _ (List.mem_cons_of_mem _ hm))
termination_by n => n
decreasing_by
  have : n = q.length + 1 := by rw [← hn]; rfl
  omega
/-- THE BEGINNINGS of a program's text: each is read; and where no line must follow, it is the text of what is read, a program -/
theorem beginnings {p : List Sm} (h : Prog p) {m : Nat} (hm : m ≤ (Sm.liness 0 p).length) : ∃ S, runR start0 ((Sm.liness 0 p).take m) = some S ∧ Wf S ∧ (lacksR S = false → Prog (fin S) ∧ Sm.liness 0 (fin S) = (Sm.liness 0 p).take m) := by
  have g0 : GoodL [⟨Pt.new .prog, p, []⟩] := ⟨rfl, ⟨h.good, rfl, fun z => by cases z⟩, rfl⟩
  have r0 : rem [⟨Pt.new .prog, p, []⟩] = Sm.liness 0 p := by
    show Sm.liness 0 p ++ ([] ++ []) = _
    simp
  obtain ⟨L, h1, h2, h3, h4, h5, h6⟩ := run_all m [⟨Pt.new .prog, p, []⟩] g0 (fun z => by cases z) (by rw [r0]; exact hm)
  rw [r0] at h1 h4 h6
  refine ⟨pts L, h1, Wf.of h2, fun hl => ?_⟩
  cases L with
  | nil => exact h2.elim
  | cons l r =>
    have hl2 : (l.pt.lacks || (l.pt :: pts r).any (·.kd.isHand)) = false := hl
    obtain ⟨hl3, hl4⟩ := Bool.or_eq_false_iff.mp hl2
    have hh : ∀ x ∈ (l :: r), x.pt.kd.isHand = false := fun x hx => by
      have := List.any_eq_false.mp hl4 x.pt (by
        rcases List.mem_cons.mp hx with e | hx
        · rw [e]; exact List.mem_cons_self
        · exact List.mem_cons_of_mem _ (List.mem_map.mpr ⟨x, hx, rfl⟩))
      simpa using this
    have cut := fin_cut r.length l r rfl h2 hh l.pt.rows (CutB.front _ _)
    have hf : full (l :: r) = p := by
      rw [h5, full_one]
      rfl
    rw [hf] at cut
    refine ⟨CutB.prog cut h, ?_⟩
    have fl := fin_lines (l :: r).length (l :: r) rfl h2 (fun a b e => by injection e with e1 _; rw [← e1]; exact hl3) hh
    rw [fl, h6]
    rfl
end K04
/-! text P6 -/
set_option Elab.async false
set_option linter.all false
set_option maxRecDepth 100000
set_option maxHeartbeats 4000000
/-! Whether a line must follow, as the law tells it; wrong lines -/
namespace K04
open PySem TL
def h01 (p : Pt) : Int := if p.kd.isHand then 1 else 0
def wStep (ws : List Int) (l : List Nat) : List Int :=
  let w := bef (lst l)
  let d := ahead l / 2
  let w1 := ws.take (d + 1)
  let w2 := if w = cs "or" then w1.set d 0 else w1
  let w3 := w2 ++ [0]
  if w = cs "we" ∨ w = cs "they" then w3.set d 1 else w3
def WI (S : List Pt) (ws : List Int) : Prop := ∃ z, (z = 1 ∨ z = 2) ∧ ws = (S.map h01).reverse.drop 1 ++ List.replicate z 0
def opens (w : List Nat) : Bool := decide (w = cs "if") || (decide (w = cs "repeat") || (decide (w = cs "else") || decide (w = cs "or")))
def Hd.wordL : Hd → List Nat
  | .set _ _ => cs "set" | .pay _ => cs "pay" | .stop => cs "stop" | .ift _ => cs "if" | .cho b => tl (hand b) | .rep _ => cs "repeat"
theorem stOf_word {t : List Nat} {h : Hd} (e : stOf t = some h) : bef t = h.wordL := by
  unfold stOf at e
  split at e
  · rename_i z; cases e; rw [z]; decide +kernel
  split at e
  · rename_i z; cases e; rw [z]; decide +kernel
  split at e
  · rename_i z; cases e; rw [z]; decide +kernel
  split at e
  · rename_i z
    unfold setOf at e
    split at e
    · split at e
      · cases e; exact z
      · cases e
    · cases e
  split at e
  · rename_i z
    obtain ⟨x, _, rfl⟩ := Option.map_eq_some_iff.mp e
    exact z
  split at e
  · rename_i z
    obtain ⟨x, _, rfl⟩ := Option.map_eq_some_iff.mp e
    exact z
  split at e
  · rename_i z
    obtain ⟨x, _, rfl⟩ := Option.map_eq_some_iff.mp e
    exact z
  · cases e
theorem rdGo_shape {t : List Nat} {lk : Bool} : ∀ (m : Nat) (S S' : List Pt), rdGo t lk m S = some S' →
    ∃ k0 C q, act t lk k0 (C :: q) = some S' ∧ (C :: q).map h01 = (S.map h01).drop m ∧ (∀ k, m = k + 1 → (S.map h01)[k]? = some (if t = cs "or" then 1 else 0)) ∧ (m = 0 → t ≠ cs "or")
  | 0, [], S', e => by
    unfold rdGo at e
    split at e
    · cases e
    · cases e
  | 0, C :: q, S', e => by
    unfold rdGo at e
    split at e
    · cases e
    · rename_i z
      exact ⟨none, C, q, e, rfl, (fun k h => by cases h), fun _ => z⟩
  | 1, [], S', e => by cases e
  | 1, [T], S', e => by cases e
  | 1, T :: O :: r, S', e => by
    unfold rdGo at e
    split at e
    · rename_i z
      refine ⟨some T.kd, absorb T O, r, e, rfl, fun k h => ?_, fun h => by cases h⟩
      obtain rfl : k = 0 := by omega
      show some (h01 T) = _
      unfold h01
      rw [z]
      by_cases y : t = cs "or" <;> simp [y]
    · cases e
  | m + 2, [], S', e => by cases e
  | m + 2, [T], S', e => by cases e
  | m + 2, T :: O :: r, S', e => by
    unfold rdGo at e
    split at e
    · cases e
    · obtain ⟨k0, C, q, h1, h2, h3, h4⟩ := rdGo_shape (m + 1) (absorb T O :: r) S' e
      refine ⟨k0, C, q, h1, h2, fun k h => ?_, fun h => by cases h⟩
      obtain rfl : k = m + 1 := by omega
      exact h3 m rfl
/-- what a line does to the open blocks, seen from what must follow -/
theorem act_shape {t : List Nat} {lk : Bool} {k0 : Option Kd} {C : Pt} {q S' : List Pt} (e : act t lk k0 (C :: q) = some S') :
    (bef t = cs "or" ↔ t = cs "or") ∧
    ((∃ P, S' = P :: C :: q ∧ P.lacks = true ∧ ((h01 P = 1 ∧ (bef t = cs "we" ∨ bef t = cs "they") ∧ opens (bef t) = false) ∨ (h01 P = 0 ∧ ¬ (bef t = cs "we" ∨ bef t = cs "they") ∧ opens (bef t) = true))) ∨
      ∃ P, S' = P :: q ∧ h01 P = h01 C ∧ P.lacks = false ∧ ¬ (bef t = cs "we" ∨ bef t = cs "they") ∧ opens (bef t) = false) := by
  unfold act at e
  dsimp only at e
  split at e
  · rename_i z
    cases e
    rw [z]
    exact ⟨by decide +kernel, .inl ⟨_, rfl, rfl, .inr ⟨rfl, by decide +kernel, by decide +kernel⟩⟩⟩
  split at e
  · rename_i z
    cases e
    rw [z.1]
    exact ⟨by decide +kernel, .inl ⟨_, rfl, rfl, .inr ⟨rfl, by decide +kernel, by decide +kernel⟩⟩⟩
  split at e
  · rename_i z
    split at e
    · cases e
      rw [z]
      refine ⟨by decide +kernel, .inr ⟨_, rfl, rfl, ?_, by decide +kernel, by decide +kernel⟩⟩
      unfold Pt.lacks
      simp
    · cases e
  split at e
  · cases e
  split at e
  · cases e
  · rename_i n1 n2 n3 n4 _ h hs
    cases e
    have w := stOf_word hs
    have row : ∀ (p : Pt) (s : Sm), ({ p with rows := p.rows ++ [s] } : Pt).lacks = false := fun p s => by unfold Pt.lacks; simp
    cases h with
    | set x ee =>
      rw [w]
      dsimp only [Hd.wordL]
      exact ⟨⟨fun z => absurd z (by decide +kernel), fun z => absurd z n1⟩, .inr ⟨_, rfl, rfl, row _ _, by decide +kernel, by decide +kernel⟩⟩
    | pay ee =>
      rw [w]
      dsimp only [Hd.wordL]
      exact ⟨⟨fun z => absurd z (by decide +kernel), fun z => absurd z n1⟩, .inr ⟨_, rfl, rfl, row _ _, by decide +kernel, by decide +kernel⟩⟩
    | stop =>
      rw [w]
      dsimp only [Hd.wordL]
      exact ⟨⟨fun z => absurd z (by decide +kernel), fun z => absurd z n1⟩, .inr ⟨_, rfl, rfl, row _ _, by decide +kernel, by decide +kernel⟩⟩
    | ift te =>
      rw [w]
      dsimp only [Hd.wordL]
      exact ⟨⟨fun z => absurd z (by decide +kernel), fun z => absurd z n1⟩, .inl ⟨_, rfl, rfl, .inr ⟨rfl, by decide +kernel, by decide +kernel⟩⟩⟩
    | rep k =>
      rw [w]
      dsimp only [Hd.wordL]
      exact ⟨⟨fun z => absurd z (by decide +kernel), fun z => absurd z n1⟩, .inl ⟨_, rfl, rfl, .inr ⟨rfl, by decide +kernel, by decide +kernel⟩⟩⟩
    | cho b =>
      rw [w]
      cases b with
      | true => exact ⟨⟨fun z => absurd (show tl (hand true) = cs "or" from z) (by decide +kernel), fun z => absurd z n1⟩, .inl ⟨_, rfl, rfl, .inl ⟨rfl, by show tl (hand true) = _ ∨ tl (hand true) = _; decide +kernel, by show opens (tl (hand true)) = _; decide +kernel⟩⟩⟩
      | false => exact ⟨⟨fun z => absurd (show tl (hand false) = cs "or" from z) (by decide +kernel), fun z => absurd z n1⟩, .inl ⟨_, rfl, rfl, .inl ⟨rfl, by show tl (hand false) = _ ∨ tl (hand false) = _; decide +kernel, by show opens (tl (hand false)) = _; decide +kernel⟩⟩⟩
theorem lacks_iff {T : Pt} {r : List Pt} (w : Wf (T :: r)) (z : Nat) : lacksR (T :: r) = (T.lacks || decide ((1 : Int) ∈ ((T :: r).map h01).reverse.drop 1 ++ List.replicate z 0)) := by
  have bot : ∀ (S : List Pt), Wf S → ∃ A b, S = A ++ [b] ∧ b.kd = .prog := by
    intro S
    induction S with
    | nil => intro h; exact h.elim
    | cons T r ih =>
      intro h
      cases r with
      | nil => exact ⟨[], T, rfl, h⟩
      | cons O q =>
        obtain ⟨A, b, e, hb⟩ := ih h.2
        exact ⟨T :: A, b, by rw [e]; rfl, hb⟩
  obtain ⟨A, b, e, hb⟩ := bot _ w
  show (T.lacks || (T :: r).any (·.kd.isHand)) = _
  refine congrArg (T.lacks || ·) ?_
  have e5 : ((A ++ [b]).map h01).reverse.drop 1 = (A.map h01).reverse := by simp [List.map_append, List.reverse_append]
  rw [e, e5, List.any_append]
  have e2 : [b].any (·.kd.isHand) = false := by simp [hb, Kd.isHand]
  rw [e2, Bool.or_false]
  rw [Bool.eq_iff_iff, decide_eq_true_iff]
  refine ⟨fun y => ?_, fun q => ?_⟩
  case refine_2 =>
    rcases List.mem_append.mp q with q | q
    · obtain ⟨p, hp, hq⟩ := List.mem_map.mp (List.mem_reverse.mp q)
      refine List.any_eq_true.mpr ⟨p, hp, ?_⟩
      unfold h01 at hq
      split at hq
      · assumption
      · cases hq
    · have := List.eq_of_mem_replicate q
      cases this
  case refine_1 =>
    obtain ⟨p, hp, y⟩ := List.any_eq_true.mp y
    refine List.mem_append_left _ (List.mem_reverse.mpr (List.mem_map.mpr ⟨p, hp, ?_⟩))
    unfold h01
    rw [if_pos y]
theorem waits_step {S S' : List Pt} {l : List Nat} {ws : List Int} (w : Wf S) (e : rd S l = some S') (hw : WI S ws) :
    ahead l / 2 < ws.length ∧ WI S' (wStep ws l) ∧ lacksR S' = (decide ((1 : Int) ∈ wStep ws l) || opens (bef (lst l))) := by
  have w' := w.rd e
  obtain ⟨T, r, rfl⟩ := w.ne
  obtain ⟨z, hz, rfl⟩ := hw
  unfold rd at e
  dsimp only at e
  split at e
  · cases e
  rename_i hc
  have hd : ahead l / 2 ≤ r.length := by
    rcases Nat.lt_or_ge r.length (ahead l / 2) with h | h
    · exact absurd (.inr (.inl h)) hc
    · exact h
  obtain ⟨k0, C, q, h1, h2, h3, h4⟩ := rdGo_shape _ _ _ e
  have hlen : ((T :: r).map h01).length = r.length + 1 := by simp
  generalize ehs : (T :: r).map h01 = hs at h2 h3 hlen
  have lA : (hs.reverse.drop 1).length = r.length := by rw [List.length_drop, List.length_reverse, hlen]; omega
  generalize ed : ahead l / 2 = d at hd h2 h3 h4
  generalize et : lst l = t at h1 h3 h4
  -- the list up to the line's depth
  have tk : (hs.reverse.drop 1 ++ List.replicate z 0).take (d + 1) = (hs.reverse.drop 1).take d ++ [if t = cs "or" then 1 else 0] := by
    by_cases hdn : d = r.length
    · have m0 : r.length - d = 0 := by omega
      have a1 : (hs.reverse.drop 1).take (d + 1) = hs.reverse.drop 1 := List.take_of_length_le (by rw [lA]; omega)
      have a2 : (hs.reverse.drop 1).take d = hs.reverse.drop 1 := List.take_of_length_le (by rw [lA]; omega)
      rw [if_neg (h4 m0), List.take_append, a1, a2, lA]
      have : d + 1 - r.length = 1 := by omega
      rw [this]
      rcases hz with rfl | rfl <;> rfl
    · have hlt : d < r.length := by omega
      have m1 : r.length - d = (r.length - d - 1) + 1 := by omega
      have g := h3 (r.length - d - 1) m1
      rw [List.take_append_of_le_length (by rw [lA]; omega), List.take_succ]
      refine congrArg _ ?_
      have g2 : (hs.reverse.drop 1)[d]? = hs[r.length - d - 1]? := by
        rw [List.getElem?_drop, List.getElem?_reverse (by rw [hlen]; omega), hlen]
        refine congrArg (hs[·]?) ?_
        omega
      rw [g2, g]
      rfl
  have hq : ((C :: q).map h01).reverse = hs.reverse.take (d + 1) := by
    rw [h2, List.reverse_drop, hlen]
    refine congrArg (fun k => hs.reverse.take k) ?_
    omega
  have hq1 : (hs.reverse.take (d + 1)).drop 1 = (hs.reverse.drop 1).take d := by
    rw [List.drop_take]
    rfl
  obtain ⟨ho, hcase⟩ := act_shape h1
  have lA2 : ((hs.reverse.drop 1).take d).length = d := by rw [List.length_take, lA]; omega
  have set_last : ∀ (A : List Int) (x y : Int) (B : List Int), A.length = d → (A ++ x :: B).set d y = A ++ y :: B := fun A x y B h => by
    rw [List.set_append_right _ _ (by omega), h, Nat.sub_self]
    rfl
  have w2 : (if bef t = cs "or" then ((hs.reverse.drop 1).take d ++ [if t = cs "or" then 1 else 0]).set d 0 else (hs.reverse.drop 1).take d ++ [if t = cs "or" then 1 else 0]) = (hs.reverse.drop 1).take d ++ [0] := by
    by_cases y : t = cs "or"
    · rw [if_pos (ho.mpr y), set_last _ _ _ _ lA2]
    · rw [if_neg (fun x => y (ho.mp x)), if_neg y]
  have ew : wStep (hs.reverse.drop 1 ++ List.replicate z 0) l = if bef t = cs "we" ∨ bef t = cs "they" then (hs.reverse.drop 1).take d ++ [1, 0] else (hs.reverse.drop 1).take d ++ [0, 0] := by
    unfold wStep
    dsimp only
    rw [ed, et, tk, w2, List.append_assoc]
    split
    · rename_i y
      show ((hs.reverse.drop 1).take d ++ 0 :: [0]).set d 1 = _
      rw [set_last _ _ _ _ lA2]
    · rfl
  have fin : ∀ {S' : List Pt} {z' : Nat}, (z' = 1 ∨ z' = 2) → Wf S' → (∃ P q', S' = P :: q' ∧ P.lacks = (opens (bef t) || decide (bef t = cs "we" ∨ bef t = cs "they"))) →
      wStep (hs.reverse.drop 1 ++ List.replicate z 0) l = (S'.map h01).reverse.drop 1 ++ List.replicate z' 0 → ((bef t = cs "we" ∨ bef t = cs "they") → (1 : Int) ∈ wStep (hs.reverse.drop 1 ++ List.replicate z 0) l) →
      d < (hs.reverse.drop 1 ++ List.replicate z 0).length ∧ WI S' (wStep (hs.reverse.drop 1 ++ List.replicate z 0) l) ∧ lacksR S' = (decide ((1 : Int) ∈ wStep (hs.reverse.drop 1 ++ List.replicate z 0) l) || opens (bef t)) := by
    intro S' z' hz' wf ⟨P, q', eP, lP⟩ e1 e2
    subst eP
    refine ⟨?_, ⟨z', hz', e1⟩, ?_⟩
    · rw [List.length_append, lA, List.length_replicate]
      rcases hz with rfl | rfl <;> omega
    · rw [lacks_iff wf z', ← e1, lP]
      by_cases y : bef t = cs "we" ∨ bef t = cs "they"
      · rw [decide_eq_true (e2 y)]
        simp
      · rw [decide_eq_false y, Bool.or_false, Bool.or_comm]
  rcases hcase with ⟨P, eS, lP, hP⟩ | ⟨P, eS, hP, lP, nP, oP⟩
  · have er : (S'.map h01).reverse.drop 1 = (hs.reverse.drop 1).take d ++ [h01 P] := by
      rw [eS, List.map_cons, List.reverse_cons, hq, List.drop_append_of_le_length, hq1]
      rw [List.length_take, List.length_reverse, hlen]
      omega
    refine fin (z' := 1) (.inl rfl) w' ⟨P, _, eS, ?_⟩ ?_ ?_
    · rw [lP]
      rcases hP with ⟨_, y, o⟩ | ⟨_, y, o⟩
      · rw [decide_eq_true y, Bool.or_true]
      · rw [o, Bool.true_or]
    · rw [ew, er]
      rcases hP with ⟨a, y, _⟩ | ⟨a, y, _⟩
      · rw [if_pos y, a, List.append_assoc]; rfl
      · rw [if_neg y, a, List.append_assoc]; rfl
    · intro y
      rw [ew, if_pos y]
      simp
  · have er : (S'.map h01).reverse.drop 1 = (hs.reverse.drop 1).take d := by
      rw [eS, List.map_cons, hP, ← List.map_cons (f := h01), hq, hq1]
    refine fin (z' := 2) (.inr rfl) w' ⟨P, _, eS, ?_⟩ ?_ (fun y => absurd y nP)
    · rw [lP, oP, decide_eq_false nP]
      rfl
    · rw [ew, er, if_neg nP]
      rfl
/-- over all lines -/
def wRun : List Int → List (List Nat) → List Int
  | ws, [] => ws
  | ws, l :: r => wRun (wStep ws l) r
theorem waits_run : ∀ (ls : List (List Nat)) (S S' : List Pt) (ws : List Int), Wf S → WI S ws → runR S ls = some S' → Wf S' ∧ WI S' (wRun ws ls) ∧ (∀ l r, ls = r ++ [l] → lacksR S' = (decide ((1 : Int) ∈ wRun ws ls) || opens (bef (lst l)))) ∧
    ∀ (a : List (List Nat)) l b, ls = a ++ l :: b → ahead l / 2 < (wRun ws a).length
  | [], S, S', ws, w, hw, e => by
    cases e
    exact ⟨w, hw, (fun l r h => by cases r <;> cases h), (fun a l b h => by cases a <;> cases h)⟩
  | l :: ls, S, S', ws, w, hw, e => by
    cases e1 : rd S l with
    | none =>
      rw [show runR S (l :: ls) = (match rd S l with | none => none | some S' => runR S' ls) from rfl, e1] at e
      cases e
    | some S1 =>
      rw [show runR S (l :: ls) = (match rd S l with | none => none | some S' => runR S' ls) from rfl, e1] at e
      obtain ⟨h1, h2, h3⟩ := waits_step w e1 hw
      obtain ⟨k1, k2, k3, k4⟩ := waits_run ls S1 S' (wStep ws l) (w.rd e1) h2 e
      refine ⟨k1, k2, fun x r h => ?_, fun a x b h => ?_⟩
      · cases r with
        | nil =>
          injection h with ha hb
          subst ha
          subst hb
          cases e
          exact h3
        | cons y r =>
          injection h with ha hb
          exact k3 x r hb
      · cases a with
        | nil =>
          injection h with ha hb
          rw [← ha]
          exact h1
        | cons y a =>
          injection h with ha hb
          rw [← ha]
          exact k4 a x b hb
theorem wi0 : WI start0 [0] := ⟨1, .inl rfl, rfl⟩
theorem wf0 : Wf start0 := rfl
/-! ### wrong lines -/
def wrongs : List (List Nat) := [cs "say n", cs "pay", cs "else if", cs "set x ", cs "  ", cs "  pass pass", cs "pay 1 + 1", cs "if rest 1 of 2", cs "repeat n",
  cs "pay  n", cs "we or", cs "set pass 1", cs "if not", cs "x = 1", cs "stop stop", cs "they  "]
theorem wrongFacts : wrongs.all (fun l => decide (stOf (lst l) = none) && decide (lst l ≠ cs "or") && decide (lst l ≠ cs "else") && decide (lst l ≠ cs "pass") && l.all (· != 10) && decide (l.length ≤ 20)) = true := by decide +kernel
theorem act_wrong {t : List Nat} {lk : Bool} {k0 : Option Kd} {S : List Pt} (h1 : stOf t = none) (h2 : t ≠ cs "or") (h3 : t ≠ cs "else") (h4 : t ≠ cs "pass") : act t lk k0 S = none := by
  cases S with
  | nil => rfl
  | cons C q =>
    unfold act
    dsimp only
    rw [if_neg h2, if_neg (fun z => h3 z.1), if_neg h4, h1]
    split <;> rfl
theorem rdGo_wrong {t : List Nat} {lk : Bool} (h1 : stOf t = none) (h2 : t ≠ cs "or") (h3 : t ≠ cs "else") (h4 : t ≠ cs "pass") : ∀ (m : Nat) (S : List Pt), rdGo t lk m S = none
  | 0, S => by unfold rdGo; rw [if_neg h2]; exact act_wrong h1 h2 h3 h4
  | 1, [] => rfl
  | 1, [_] => rfl
  | 1, T :: O :: r => by
    unfold rdGo
    split
    · exact act_wrong h1 h2 h3 h4
    · rfl
  | m + 2, [] => rfl
  | m + 2, [_] => rfl
  | m + 2, T :: O :: r => by
    unfold rdGo
    split
    · rfl
    · exact rdGo_wrong h1 h2 h3 h4 (m + 1) _
theorem rd_wrong {l : List Nat} (h : l ∈ wrongs) (S : List Pt) : rd S l = none := by
  have f := List.all_eq_true.mp wrongFacts l h
  simp only [Bool.and_eq_true, decide_eq_true_eq] at f
  cases S with
  | nil => rfl
  | cons T r =>
    unfold rd
    dsimp only
    split
    · rfl
    · exact rdGo_wrong f.1.1.1.1.1 f.1.1.1.1.2 f.1.1.1.2 f.1.1.2 _ _
end K04
/-! text P7 -/
set_option Elab.async false
set_option linter.all false
set_option maxRecDepth 100000
set_option maxHeartbeats 4000000
/-! Lengths of what is written; no newline in it -/
namespace K04
open PySem TL
theorem exL_len : ∀ (e : Ex) (n : Nat), e.ok n = true → (exL e).length + 5 ≤ 13 * 2 ^ n
  | _, 0, h => by cases (show False by simp [Ex.ok] at h)
  | .num i, n + 1, h => by
    have hb : -99 ≤ i ∧ i ≤ 99 := by simpa [Ex.ok] using h
    have := num_len hb.1 hb.2
    have : 2 ^ (n + 1) ≥ 2 := by rw [Nat.pow_succ]; have := Nat.one_le_two_pow (n := n); omega
    show (numL' i).length + 5 ≤ _
    omega
  | .nam x, n + 1, h => by
    obtain ⟨c, r, _, _, hl, _⟩ := name_all (show nameOk (tl x) = true by simpa [Ex.ok] using h)
    have : 2 ^ (n + 1) ≥ 2 := by rw [Nat.pow_succ]; have := Nat.one_le_two_pow (n := n); omega
    show (tl x).length + 5 ≤ _
    omega
  | .bin o a b, n + 1, h => by
    have hb : b.ok n = true := by cases o <;> cases a <;> simp [Ex.ok] at h <;> exact h.2
    have lb := exL_len b n hb
    have la : (exL a).length + 5 ≤ 13 * 2 ^ n := by
      by_cases ht : o = .times
      · subst ht
        cases a with
        | num f =>
          have hf : -9 ≤ f ∧ f ≤ 9 := by simp [Ex.ok] at h; omega
          have := num_len (i := f) (by omega) (by omega)
          have : 2 ^ n ≥ 1 := Nat.one_le_two_pow
          show (numL' f).length + 5 ≤ _
          omega
        | _ => simp [Ex.ok] at h
      · exact exL_len a n (by cases o <;> cases a <;> simp [Ex.ok] at h ht <;> exact h.1)
    have ls := sign_len o
    show (40 :: (exL a ++ (o.sign ++ (exL b ++ [41])))).length + 5 ≤ _
    simp only [List.length_cons, List.length_append, List.length_nil]
    rw [Nat.pow_succ]
    omega
theorem exL_len3 {e : Ex} (h : e.ok 3 = true) : (exL e).length ≤ 99 := by have := exL_len e 3 h; omega
theorem teL_len : ∀ (t : Te) (n : Nat), t.ok n = true → (teL t).length ≤ 201 + 4 * n
  | .less a b, n, h => by
    obtain ⟨h1, h2⟩ := less_facts h
    have := exL_len3 h1
    have := exL_len3 h2
    show (exL a ++ ([32, 60, 32] ++ exL b)).length ≤ _
    simp only [List.length_cons, List.length_append, List.length_nil]
    omega
  | .rest e q r, n, h => by
    obtain ⟨h1, h2, h3⟩ := rest_facts h
    have := exL_len3 h1
    have := num_len h2.1 h2.2
    have := num_len h3.1 h3.2
    show (cs "rest " ++ (numL' r ++ (cs " of " ++ (numL' q ++ ([32] ++ exL e))))).length ≤ _
    simp only [List.length_cons, List.length_append, List.length_nil]
    have e1 : (cs "rest ").length = 5 := by decide +kernel
    have e2 : (cs " of ").length = 4 := by decide +kernel
    omega
  | .no t, 0, h => by simp [Te.ok] at h
  | .no t, n + 1, h => by
    have := teL_len t n (by simpa [Te.ok] using h)
    show (cs "not " ++ teL t).length ≤ _
    have e1 : (cs "not ").length = 4 := by decide +kernel
    rw [List.length_append]; omega
theorem hand_ln (b : Bool) : (tl (hand b)).length ≤ 250 ∧ (10 : Nat) ∉ tl (hand b) := by cases b <;> decide +kernel
theorem liL_len {s : Sm} (h : s.ok = true) : (liL s).length ≤ 250 := by
  cases s with
  | set x e =>
    simp only [Sm.ok, Bool.and_eq_true] at h
    obtain ⟨c, r, _, _, hl, _⟩ := name_all h.1
    have := exL_len3 h.2
    have e1 : (cs "set ").length = 4 := by decide +kernel
    show (cs "set " ++ (tl x ++ ([32] ++ exL e))).length ≤ _
    simp only [List.length_cons, List.length_append, List.length_nil]; omega
  | pay e =>
    have := exL_len3 (show e.ok 3 = true from h)
    have e1 : (cs "pay ").length = 4 := by decide +kernel
    show (cs "pay " ++ exL e).length ≤ _
    rw [List.length_append]; omega
  | stop => decide +kernel
  | ift t y n =>
    have := teL_len t 2 h
    have e1 : (cs "if ").length = 3 := by decide +kernel
    show (cs "if " ++ teL t).length ≤ _
    rw [List.length_append]; omega
  | cho b _ _ => exact (hand_ln b).1
  | rep k b =>
    have hk : 1 ≤ k ∧ k ≤ 8 := of_decide_eq_true h
    have := num_len (i := k) (by omega) (by omega)
    have e1 : (cs "repeat ").length = 7 := by decide +kernel
    show (cs "repeat " ++ numL' k).length ≤ _
    rw [List.length_append]; omega
  | half _ _ => cases h
theorem ind_len (d : Nat) : (ind d).length = 2 * d := by simp [ind]
/-! ### no newline -/
abbrev NoNl (l : List Nat) : Prop := (10 : Nat) ∉ l
theorem nonl_of {l : List Nat} (h : l.all (· != 10) = true) : NoNl l := fun z => by have := List.all_eq_true.mp h 10 z; simp at this
theorem NoNl.app {a b : List Nat} (h : NoNl a) (g : NoNl b) : NoNl (a ++ b) := fun z => (List.mem_append.mp z).elim h g
theorem exL_nl : ∀ (e : Ex) (n : Nat), e.ok n = true → NoNl (exL e)
  | _, 0, h => by cases (show False by simp [Ex.ok] at h)
  | .num i, n + 1, h => by
    have hb : -99 ≤ i ∧ i ≤ 99 := by simpa [Ex.ok] using h
    exact nonl_of (num_nl hb.1 hb.2)
  | .nam x, n + 1, h => nonl_of (name_nl (show nameOk (tl x) = true by simpa [Ex.ok] using h))
  | .bin o a b, n + 1, h => by
    have hb : b.ok n = true := by cases o <;> cases a <;> simp [Ex.ok] at h <;> exact h.2
    have lb := exL_nl b n hb
    have la : NoNl (exL a) := by
      by_cases ht : o = .times
      · subst ht
        cases a with
        | num f =>
          have hf : -9 ≤ f ∧ f ≤ 9 := by simp [Ex.ok] at h; omega
          exact nonl_of (num_nl (i := f) (by omega) (by omega))
        | _ => simp [Ex.ok] at h
      · exact exL_nl a n (by cases o <;> cases a <;> simp [Ex.ok] at h ht <;> exact h.1)
    have ls : NoNl o.sign := by cases o <;> decide
    show NoNl ([40] ++ (exL a ++ (o.sign ++ (exL b ++ [41]))))
    exact NoNl.app (by decide) (NoNl.app la (NoNl.app ls (NoNl.app lb (by decide))))
theorem teL_nl : ∀ (t : Te) (n : Nat), t.ok n = true → NoNl (teL t)
  | .less a b, n, h => by
    obtain ⟨h1, h2⟩ := less_facts h
    exact NoNl.app (exL_nl a 3 h1) (NoNl.app (by decide) (exL_nl b 3 h2))
  | .rest e q r, n, h => by
    obtain ⟨h1, h2, h3⟩ := rest_facts h
    exact NoNl.app (by decide +kernel) (NoNl.app (nonl_of (num_nl h3.1 h3.2)) (NoNl.app (by decide +kernel) (NoNl.app (nonl_of (num_nl h2.1 h2.2)) (NoNl.app (by decide) (exL_nl e 3 h1)))))
  | .no t, 0, h => by simp [Te.ok] at h
  | .no t, n + 1, h => NoNl.app (by decide +kernel) (teL_nl t n (by simpa [Te.ok] using h))
theorem liL_nl {s : Sm} (h : s.ok = true) : NoNl (liL s) := by
  cases s with
  | set x e =>
    simp only [Sm.ok, Bool.and_eq_true] at h
    exact NoNl.app (by decide +kernel) (NoNl.app (nonl_of (name_nl h.1)) (NoNl.app (by decide) (exL_nl e 3 h.2)))
  | pay e => exact NoNl.app (by decide +kernel) (exL_nl e 3 h)
  | stop => decide +kernel
  | ift t y n => exact NoNl.app (by decide +kernel) (teL_nl t 2 h)
  | cho b _ _ => exact (hand_ln b).2
  | rep k b =>
    have hk : 1 ≤ k ∧ k ≤ 8 := of_decide_eq_true h
    exact NoNl.app (by decide +kernel) (nonl_of (num_nl (i := k) (by omega) (by omega)))
  | half _ _ => cases h
theorem ind_nl (d : Nat) : NoNl (ind d) := fun z => by have := (List.mem_replicate.mp z).2; omega
/-- a line that may be written -/
def LineOk (l : List Nat) : Prop := NoNl l ∧ l.length ≤ 300
theorem lineOk_ind {d : Nat} {t : List Nat} (hd : d ≤ 10) (h : NoNl t) (hl : t.length ≤ 250) : LineOk (ind d ++ t) := ⟨NoNl.app (ind_nl d) h, by rw [List.length_append, ind_len]; omega⟩
theorem nl_pass : NoNl (cs "pass") := by decide +kernel
theorem nl_else : NoNl (cs "else") := by decide +kernel
theorem nl_or : NoNl (cs "or") := by decide +kernel
theorem ln_pass : (cs "pass").length ≤ 250 := by decide +kernel
theorem ln_else : (cs "else").length ≤ 250 := by decide +kernel
theorem ln_or : (cs "or").length ≤ 250 := by decide +kernel
theorem ok_ift {t : Te} {y n : List Sm} (h : t.ok 2 = true) : (Sm.ift t y n).ok = true := h
mutual
theorem lines_ok : ∀ (s : Sm) (d : Nat), s.good d = true → ∀ l ∈ s.lines d, LineOk l
  | .set x e, d, h, l, hl => by
    simp only [Sm.good, Bool.and_eq_true, decide_eq_true_eq] at h
    have hl : l ∈ [ind d ++ liL (.set x e)] := hl
    rw [List.mem_singleton] at hl; subst hl
    have ok : (Sm.set x e).ok = true := by simp only [Sm.ok, Bool.and_eq_true]; exact ⟨h.1.2, h.2⟩
    exact lineOk_ind (by omega) (liL_nl ok) (liL_len ok)
  | .pay e, d, h, l, hl => by
    simp only [Sm.good, Bool.and_eq_true, decide_eq_true_eq] at h
    have hl : l ∈ [ind d ++ liL (.pay e)] := hl
    rw [List.mem_singleton] at hl; subst hl
    have ok : (Sm.pay e).ok = true := h.2
    exact lineOk_ind (by omega) (liL_nl ok) (liL_len ok)
  | .stop, d, h, l, hl => by
    simp only [Sm.good, decide_eq_true_eq] at h
    have hl : l ∈ [ind d ++ liL .stop] := hl
    rw [List.mem_singleton] at hl; subst hl
    exact lineOk_ind (by omega) (liL_nl rfl) (liL_len rfl)
  | .ift t y n, d, h, l, hl => by
    simp only [Sm.good, Bool.and_eq_true, decide_eq_true_eq] at h
    have ok : (Sm.ift t y n).ok = true := h.1.1.2
    have hl : l ∈ (ind d ++ liL (.ift t y n)) :: ((if y.isEmpty then [ind (d + 1) ++ cs "pass"] else Sm.liness (d + 1) y) ++ (if n.isEmpty then [] else (ind d ++ cs "else") :: Sm.liness (d + 1) n)) := hl
    rcases List.mem_cons.mp hl with rfl | hl
    · exact lineOk_ind (by omega) (liL_nl ok) (liL_len ok)
    · rcases List.mem_append.mp hl with hl | hl
      · split at hl
        · rw [List.mem_singleton] at hl; subst hl; exact lineOk_ind (by omega) nl_pass ln_pass
        · exact liness_ok y (d + 1) h.1.2 l hl
      · split at hl
        · cases hl
        · rcases List.mem_cons.mp hl with rfl | hl
          · exact lineOk_ind (by omega) nl_else ln_else
          · exact liness_ok n (d + 1) h.2 l hl
  | .cho b x y, d, h, l, hl => by
    simp only [Sm.good, Bool.and_eq_true, decide_eq_true_eq] at h
    have ok : (Sm.cho b x y).ok = true := rfl
    have hl : l ∈ (ind d ++ liL (.cho b x y)) :: ((if x.isEmpty then [ind (d + 1) ++ cs "pass"] else Sm.liness (d + 1) x) ++ ((ind d ++ cs "or") :: (if y.isEmpty then [ind (d + 1) ++ cs "pass"] else Sm.liness (d + 1) y))) := hl
    rcases List.mem_cons.mp hl with rfl | hl
    · exact lineOk_ind (by omega) (liL_nl ok) (liL_len ok)
    · rcases List.mem_append.mp hl with hl | hl
      · split at hl
        · rw [List.mem_singleton] at hl; subst hl; exact lineOk_ind (by omega) nl_pass ln_pass
        · exact liness_ok x (d + 1) h.1.2 l hl
      · rcases List.mem_cons.mp hl with rfl | hl
        · exact lineOk_ind (by omega) nl_or ln_or
        · split at hl
          · rw [List.mem_singleton] at hl; subst hl; exact lineOk_ind (by omega) nl_pass ln_pass
          · exact liness_ok y (d + 1) h.2 l hl
  | .rep k x, d, h, l, hl => by
    simp only [Sm.good, Bool.and_eq_true] at h
    have ok : (Sm.rep k x).ok = true := h.1.2
    have hd : d ≤ 3 := of_decide_eq_true h.1.1
    have hl : l ∈ (ind d ++ liL (.rep k x)) :: (if x.isEmpty then [ind (d + 1) ++ cs "pass"] else Sm.liness (d + 1) x) := hl
    rcases List.mem_cons.mp hl with rfl | hl
    · exact lineOk_ind (by omega) (liL_nl ok) (liL_len ok)
    · split at hl
      · rw [List.mem_singleton] at hl; subst hl; exact lineOk_ind (by omega) nl_pass ln_pass
      · exact liness_ok x (d + 1) h.2 l hl
  | .half _ _, _, h, _, _ => by cases h
theorem liness_ok : ∀ (b : List Sm) (d : Nat), Sm.goods d b = true → ∀ l ∈ Sm.liness d b, LineOk l
  | [], _, _, l, hl => by cases hl
  | s :: r, d, h, l, hl => by
    obtain ⟨h1, h2⟩ := goods_cons h
    rcases List.mem_append.mp (show l ∈ s.lines d ++ Sm.liness d r from hl) with hl | hl
    · exact lines_ok s d h1 l hl
    · exact liness_ok r d h2 l hl
end
mutual
theorem lines_cnt : ∀ (s : Sm) (d : Nat), (s.lines d).length ≤ 4 * s.pl
  | .set x e, d => by show 1 ≤ 4 * 1; omega
  | .pay e, d => by show 1 ≤ 4 * 1; omega
  | .stop, d => by show 1 ≤ 4 * 1; omega
  | .ift t y n, d => by
    have := liness_cnt y (d + 1)
    have := liness_cnt n (d + 1)
    simp only [Sm.lines, Sm.pl, List.length_cons, List.length_append]
    split <;> split <;> (try simp only [List.length_cons, List.length_nil]) <;> omega
  | .cho b x y, d => by
    have := liness_cnt x (d + 1)
    have := liness_cnt y (d + 1)
    simp only [Sm.lines, Sm.pl, List.length_cons, List.length_append]
    split <;> split <;> (try simp only [List.length_cons, List.length_nil]) <;> omega
  | .rep k x, d => by
    have := liness_cnt x (d + 1)
    simp only [Sm.lines, Sm.pl, List.length_cons]
    split <;> (try simp only [List.length_cons, List.length_nil]) <;> omega
  | .half b x, d => by
    have := liness_cnt x (d + 1)
    simp only [Sm.lines, Sm.pl, List.length_cons]
    split <;> (try simp only [List.length_cons, List.length_nil]) <;> omega
theorem liness_cnt : ∀ (b : List Sm) (d : Nat), (Sm.liness d b).length ≤ 4 * Sm.pls b
  | [], _ => Nat.zero_le _
  | s :: r, d => by
    have := lines_cnt s d
    have := liness_cnt r d
    show (s.lines d ++ Sm.liness d r).length ≤ 4 * (s.pl + Sm.pls r)
    rw [List.length_append]; omega
end
end K04
/-! text P8 -/
set_option Elab.async false
set_option linter.all false
set_option maxRecDepth 100000
set_option maxHeartbeats 4000000
/-! A line's reading, in the order in which the program asks; sizes -/
namespace K04
open PySem TL
def szS (S : List Pt) : Nat := (S.map fun p => p.rows.length + 1).sum
theorem szS_cons (T : Pt) (r : List Pt) : szS (T :: r) = T.rows.length + 1 + szS r := rfl
theorem szS_len : ∀ S : List Pt, S.length ≤ szS S
  | [] => Nat.le_refl _
  | T :: r => by
    have := szS_len r
    rw [szS_cons, List.length_cons]; omega
theorem absRows_len {k : Kd} {b rows : List Sm} : (absRows k b rows).length ≤ rows.length + 1 := by
  cases k with
  | els =>
    show (mapLast _ rows).length ≤ _
    unfold mapLast
    split
    · omega
    · simp <;> omega
  | orr =>
    show (mapLast _ rows).length ≤ _
    unfold mapLast
    split
    · omega
    · simp <;> omega
  | prog => show rows.length ≤ _; omega
  | _ => simp [absRows]
theorem szS_abs (T O : Pt) (r : List Pt) : szS (absorb T O :: r) ≤ szS (T :: O :: r) := by
  have : (absorb T O).rows.length ≤ O.rows.length + 1 := absRows_len
  rw [szS_cons, szS_cons, szS_cons]; omega
theorem closeN_succ (m : Nat) (T O : Pt) (r : List Pt) : closeN (m + 1) (T :: O :: r) = closeN m (absorb T O :: r) := rfl
theorem closeN_sz : ∀ (m : Nat) (S : List Pt), szS (closeN m S) ≤ szS S
  | 0, S => Nat.le_refl _
  | m + 1, [] => Nat.le_refl _
  | m + 1, [T] => Nat.le_refl _
  | m + 1, T :: O :: r => Nat.le_trans (closeN_sz m _) (szS_abs T O r)
theorem closeN_wf : ∀ (m : Nat) (S : List Pt), Wf S → Wf (closeN m S)
  | 0, S, w => w
  | m + 1, [], w => w
  | m + 1, [T], w => w
  | m + 1, T :: O :: r, w => closeN_wf m _ w.abs
theorem closeN_len : ∀ (m : Nat) (S : List Pt), m < S.length → (closeN m S).length = S.length - m
  | 0, S, h => rfl
  | m + 1, [], h => by simp at h
  | m + 1, [T], h => by simp at h
  | m + 1, T :: O :: r, h => by
    rw [closeN_succ, closeN_len m _ (by simp only [List.length_cons] at h ⊢; omega)]
    simp only [List.length_cons]; omega
theorem closeN_fin : ∀ (m : Nat) (S : List Pt), S.length = m + 1 → ∃ T, closeN m S = [T] ∧ T.rows = fin S
  | 0, [T], _ => ⟨T, rfl, (fin_one T).symm⟩
  | 0, [], h => by simp at h
  | 0, _ :: _ :: _, h => by simp at h
  | m + 1, [], h => by simp at h
  | m + 1, [T], h => by simp at h
  | m + 1, T :: O :: r, h => by
    obtain ⟨X, h1, h2⟩ := closeN_fin m (absorb T O :: r) (by simp only [List.length_cons] at h ⊢; omega)
    exact ⟨X, by rw [closeN_succ, h1], by rw [h2, fin_two]⟩
theorem abs_kd (T O : Pt) : (absorb T O).kd = O.kd := rfl
/-- the kinds of the blocks that end, the outermost first -/
def endK (m : Nat) (S : List Pt) : List Kd := ((S.take m).map (·.kd)).reverse
theorem endK_len {m : Nat} {S : List Pt} (h : m ≤ S.length) : (endK m S).length = m := by
  unfold endK
  rw [List.length_reverse, List.length_map, List.length_take, Nat.min_eq_left h]
theorem rdGo_flat {rest : List Nat} {lk : Bool} : ∀ (m : Nat) (S : List Pt), m < S.length → rdGo rest lk m S =
    if ((endK m S).drop 1).any Kd.isHand = true then none else
    if (((endK m S).head?.map Kd.isHand).getD false) = decide (rest = cs "or") then act rest lk (endK m S).head? (closeN m S) else none
  | 0, S, h => by
    show (if rest = cs "or" then none else act rest lk none S) = if false = true then none else if false = decide (rest = cs "or") then act rest lk none S else none
    rw [if_neg (c := (false : Bool) = true) (fun z => by cases z)]
    by_cases z : rest = cs "or"
    · rw [if_pos z, decide_eq_true z, if_neg (fun z => by cases z)]
    · rw [if_neg z, decide_eq_false z, if_pos rfl]
  | 1, [], h => by simp at h
  | 1, [T], h => by simp at h
  | 1, T :: O :: r, h => rfl
  | m + 2, [], h => by simp at h
  | m + 2, [T], h => by simp at h
  | m + 2, T :: O :: r, h => by
    have ih := rdGo_flat (rest := rest) (lk := lk) (m + 1) (absorb T O :: r) (by simp only [List.length_cons] at h ⊢; omega)
    have ek : endK (m + 2) (T :: O :: r) = endK (m + 1) (absorb T O :: r) ++ [T.kd] := by
      unfold endK
      rw [List.take_succ_cons, List.map_cons, List.reverse_cons]
      congr 1
    have hne : ∃ k ks, endK (m + 1) (absorb T O :: r) = k :: ks := by
      cases e : endK (m + 1) (absorb T O :: r) with
      | nil =>
        have := endK_len (m := m + 1) (S := absorb T O :: r) (by simp only [List.length_cons] at h ⊢; omega)
        rw [e] at this
        simp at this
      | cons k ks => exact ⟨k, ks, rfl⟩
    obtain ⟨k, ks, e⟩ := hne
    show (if T.kd.isHand = true then none else rdGo rest lk (m + 1) (absorb T O :: r)) = _
    rw [ih, ek, e]
    show _ = if ((ks ++ [T.kd]).any Kd.isHand) = true then none else if _ = _ then act rest lk (some k) (closeN (m + 1) (absorb T O :: r)) else none
    rw [List.any_append]
    show (if T.kd.isHand = true then none else if ks.any Kd.isHand = true then none else if k.isHand = _ then act rest lk (some k) (closeN (m + 1) (absorb T O :: r)) else none) = if (ks.any Kd.isHand || (T.kd.isHand || false)) = true then none else if k.isHand = _ then act rest lk (some k) (closeN (m + 1) (absorb T O :: r)) else none
    cases T.kd.isHand <;> cases ks.any Kd.isHand <;> rfl
/-! ### what one line adds -/
theorem push_sz (h : Hd) (C : Pt) (q : List Pt) : szS (push h C q) ≤ szS (C :: q) + 1 := by
  cases h <;> simp [push, szS, Pt.new] <;> omega
theorem act_sz {rest : List Nat} {lk : Bool} {k0 : Option Kd} : ∀ {S S' : List Pt}, act rest lk k0 S = some S' → szS S' ≤ szS S + 1
  | [], _, e => by cases e
  | C :: q, S', e => by
    unfold K04.act at e
    dsimp only at e
    split at e
    · cases e; simp [szS, Pt.new]; omega
    · split at e
      · cases e; simp [szS, Pt.new]; omega
      · split at e
        · split at e
          · cases e; simp [szS]
          · cases e
        · split at e
          · cases e
          · split at e
            · cases e
            · cases e; exact push_sz _ _ _
theorem rd_sz {S S' : List Pt} {l : List Nat} (e : rd S l = some S') : szS S' ≤ szS S + 1 := by
  cases S with
  | nil => cases e
  | cons T r =>
    unfold K04.rd at e
    dsimp only at e
    split at e
    · cases e
    · rw [rdGo_flat _ _ (by simp only [List.length_cons]; omega)] at e
      split at e
      · cases e
      · split at e
        · exact Nat.le_trans (act_sz e) (Nat.add_le_add_right (closeN_sz _ _) 1)
        · cases e
theorem runR_sz : ∀ (ls : List (List Nat)) (S S' : List Pt), runR S ls = some S' → szS S' ≤ szS S + ls.length
  | [], S, S', e => by cases e; exact Nat.le_add_right _ _
  | l :: r, S, S', e => by
    unfold runR at e
    split at e
    · cases e
    · rename_i S1 e1
      have := rd_sz e1
      have := runR_sz r _ _ e
      rw [List.length_cons]; omega
end K04
/-! text R0 -/
set_option Elab.async false
set_option linter.all false
set_option maxRecDepth 100000
set_option maxHeartbeats 4000000
/-! Data in the heap; more steps of readings -/
namespace K04
open PySem PySem.Spec PyProof.Rows L2 TL
/-! ### data: what stands stays -/
theorem Same.rd {H H' : Hp} (e : Same H H') {a : Addr} {u : HO} (h : Rd H a u) : Rd H' a u := by
  rcases h with h | ⟨o, h⟩
  · exact .inl (e _ _ h)
  · exact .inr ⟨o, e _ _ h⟩
theorem Same.tup {K : PySem.W.Frag} {H H' : Hp} (e : Same H H') {a : Addr} {xs : List V} (h : SqT K H a xs) : SqT K H' a xs := by
  rcases h with h | h
  · exact .inl (Same.rd e h)
  · exact .inr h
theorem Same.new {H : Hp} {p : Addr} {o : HO} (h : H p = none) : Same H (upd H p o) := fun b u e => by
  rw [upd_ne (ne_of_none e h)]
  exact e
theorem Same.grow {H H1 : Hp} {p : Addr} {o : HO} (s : Same H H1) (h : H1 p = none) : Same H (upd H1 p o) := s.trans (Same.new h)
/-- what H does not know may change -/
theorem Same.mut {H H1 : Hp} {p : Addr} {o : HO} (s : Same H H1) (h : H p = none) : Same H (upd H1 p o) := fun b u e => by
  rw [upd_ne (ne_of_none e h)]
  exact s _ _ e
mutual
theorem dp_mono {K : PySem.W.Frag} {H H' : Hp} (e : Same H H') : ∀ {v : V} {d : PyData}, Dp K H v d → Dp K H' v d
  | _, _, .non => .non
  | _, _, .bl b => .bl b
  | _, _, .int i => .int i
  | _, _, .str x => .str x
  | _, _, .lst h r => .lst (e.seq h) (dpa_mono e r)
  | _, _, .tup h r => .tup (Same.tup e h) (dpa_mono e r)
theorem dpa_mono {K : PySem.W.Frag} {H H' : Hp} (e : Same H H') : ∀ {vs : List V} {ds : List PyData}, DpAll K H vs ds → DpAll K H' vs ds
  | _, _, .nil => .nil
  | _, _, .cons h r => .cons (dp_mono e h) (dpa_mono e r)
end
section
variable {K : PySem.W.Frag} {H : Hp} {v : V} {vs : List V} {d : PyData} {ds : List PyData} {i : Int} {x : Str}
theorem dp_int (h : Dp K H v (.int i)) : v = .int i := by cases h; rfl
theorem dp_str (h : Dp K H v (.str x)) : v = .str x := by cases h; rfl
theorem dp_tup (h : Dp K H v (.tuple ds)) : ∃ a xs, v = .ref a ∧ SqT K H a xs ∧ DpAll K H xs ds := by
  cases h with
  | tup h r => exact ⟨_, _, rfl, h, r⟩
theorem dpa_nil (h : DpAll K H vs []) : vs = [] := by cases h; rfl
theorem dpa_cons (h : DpAll K H vs (d :: ds)) : ∃ u us, vs = u :: us ∧ Dp K H u d ∧ DpAll K H us ds := by
  cases h with
  | cons a b => exact ⟨_, _, rfl, a, b⟩
theorem dpa_len : ∀ {vs : List V} {ds : List PyData}, DpAll K H vs ds → vs.length = ds.length
  | _, _, .nil => rfl
  | _, _, .cons _ r => congrArg Nat.succ (dpa_len r)
theorem dpa_get : ∀ {vs : List V} {ds : List PyData} {j : Nat} {u : V}, DpAll K H vs ds → vs[j]? = some u → ∃ d, ds[j]? = some d ∧ Dp K H u d
  | _, _, _, _, .nil, h => by cases h
  | _, _, 0, _, .cons a r, h => by cases h; exact ⟨_, rfl, a⟩
  | _, _, j + 1, _, .cons a r, h => dpa_get (j := j) r h
theorem dpa_app : ∀ {vs ws : List V} {ds es : List PyData}, DpAll K H vs ds → DpAll K H ws es → DpAll K H (vs ++ ws) (ds ++ es)
  | _, _, _, _, .nil, h => h
  | _, _, _, _, .cons a r, h => .cons a (dpa_app r h)
/-- tuples of one, two, three, four -/
theorem dp_t1 {d1 : PyData} (h : Dp K H v (.tuple [d1])) : ∃ a u1, v = .ref a ∧ SqT K H a [u1] ∧ Dp K H u1 d1 := by
  obtain ⟨a, xs, rfl, hs, r⟩ := dp_tup h
  obtain ⟨u1, us, rfl, h1, r⟩ := dpa_cons r
  obtain rfl := dpa_nil r
  exact ⟨a, u1, rfl, hs, h1⟩
theorem dp_t2 {d1 d2 : PyData} (h : Dp K H v (.tuple [d1, d2])) : ∃ a u1 u2, v = .ref a ∧ SqT K H a [u1, u2] ∧ Dp K H u1 d1 ∧ Dp K H u2 d2 := by
  obtain ⟨a, xs, rfl, hs, r⟩ := dp_tup h
  obtain ⟨u1, us, rfl, h1, r⟩ := dpa_cons r
  obtain ⟨u2, us, rfl, h2, r⟩ := dpa_cons r
  obtain rfl := dpa_nil r
  exact ⟨a, u1, u2, rfl, hs, h1, h2⟩
theorem dp_t3 {d1 d2 d3 : PyData} (h : Dp K H v (.tuple [d1, d2, d3])) : ∃ a u1 u2 u3, v = .ref a ∧ SqT K H a [u1, u2, u3] ∧ Dp K H u1 d1 ∧ Dp K H u2 d2 ∧ Dp K H u3 d3 := by
  obtain ⟨a, xs, rfl, hs, r⟩ := dp_tup h
  obtain ⟨u1, us, rfl, h1, r⟩ := dpa_cons r
  obtain ⟨u2, us, rfl, h2, r⟩ := dpa_cons r
  obtain ⟨u3, us, rfl, h3, r⟩ := dpa_cons r
  obtain rfl := dpa_nil r
  exact ⟨a, u1, u2, u3, rfl, hs, h1, h2, h3⟩
theorem dp_t4 {d1 d2 d3 d4 : PyData} (h : Dp K H v (.tuple [d1, d2, d3, d4])) : ∃ a u1 u2 u3 u4, v = .ref a ∧ SqT K H a [u1, u2, u3, u4] ∧ Dp K H u1 d1 ∧ Dp K H u2 d2 ∧ Dp K H u3 d3 ∧ Dp K H u4 d4 := by
  obtain ⟨a, xs, rfl, hs, r⟩ := dp_tup h
  obtain ⟨u1, us, rfl, h1, r⟩ := dpa_cons r
  obtain ⟨u2, us, rfl, h2, r⟩ := dpa_cons r
  obtain ⟨u3, us, rfl, h3, r⟩ := dpa_cons r
  obtain ⟨u4, us, rfl, h4, r⟩ := dpa_cons r
  obtain rfl := dpa_nil r
  exact ⟨a, u1, u2, u3, u4, rfl, hs, h1, h2, h3, h4⟩
/-- making them -/
theorem mk_t {a : Addr} {xs : List V} {ds : List PyData} (h : SqT K H a xs) (r : DpAll K H xs ds) : Dp K H (.ref a) (.tuple ds) := .tup h r
theorem ty_tup {a : Addr} {xs : List V} (h : SqT K H a xs) : TyX K H (.ref a) (.type "tuple") := by
  rcases h with (h | ⟨o, h⟩) | ⟨o, its, n, h, c, _⟩
  · exact .base (.tup h)
  · exact .fTuple h
  · exact .kTuple h c
end
/-! ### more steps -/
def rAddStr : R2 := fun x y H Q => ∃ i j, x = .str i ∧ y = .str j ∧ i.length + j.length ≤ sizeLine ∧ Q (.str (i ++ j)) H
theorem op_addS {X : Cx} : OpR X (binaryOp .Add) rAddStr := op_add_str
section
variable {K : PySem.W.Frag} {w : World} {σ : L2.St} {H : Hp} {Q : VK} {Qb : Bool → Hp → Prop} {R : L2.St → Hp → Prop} {D : Ends} {v x y : V} {i j k n : Nat} {a b : Int} {te ta tb tc : TE} {tt tu tw : TT} {ts tz : TS} {tas tr : TA} {g : TG} {gs : TGs} {r r' : R2} {dvs vs : List V} {E : XK} {sp : Sp}
theorem i_addS {p q : Str} (h : p.length + q.length ≤ 100000) (k : Q (.str (p ++ q)) H) : rAddStr (.str p) (.str q) H Q := ⟨p, q, rfl, rfl, sz h, k⟩
theorem i_ixT {p : Addr} {xs : List V} {j : Nat} (h : SqT K H p xs) (e : xs[j]? = some v) (k : Q v H) : rIxT K (.ref p) (.int (j : Int)) H Q := ⟨p, xs, _, v, rfl, rfl, h, atI_nat e, k⟩
theorem i_ixL {p : Addr} {xs : List V} {j : Nat} (h : SqL K H p xs) (e : xs[j]? = some v) (k : Q v H) : rIxL K (.ref p) (.int (j : Int)) H Q := ⟨p, xs, _, v, rfl, rfl, h, atI_nat e, k⟩
/-- the places that are written -/
theorem i_ix0 {p : Addr} {xs : List V} {u0 : V} (h : SqT K H p (u0 :: xs)) (k : Q u0 H) : rIxT K (.ref p) (.int 0) H Q := i_ixT (j := 0) h rfl k
theorem i_ix1 {p : Addr} {xs : List V} {u0 u1 : V} (h : SqT K H p (u0 :: u1 :: xs)) (k : Q u1 H) : rIxT K (.ref p) (.int 1) H Q := i_ixT (j := 1) h rfl k
theorem i_ix2 {p : Addr} {xs : List V} {u0 u1 u2 : V} (h : SqT K H p (u0 :: u1 :: u2 :: xs)) (k : Q u2 H) : rIxT K (.ref p) (.int 2) H Q := i_ixT (j := 2) h rfl k
theorem i_ix3 {p : Addr} {xs : List V} {u0 u1 u2 u3 : V} (h : SqT K H p (u0 :: u1 :: u2 :: u3 :: xs)) (k : Q u3 H) : rIxT K (.ref p) (.int 3) H Q := i_ixT (j := 3) h rfl k
theorem i_ixS {z : Str} {j : Nat} {c : Nat} (hz : z.length ≤ 100000) (h : (tl z)[j]? = some c) (k : Q (.str ⟨#[c]⟩) H) : rIxS (.str z) (.int (j : Int)) H Q := ⟨z, _, c, rfl, rfl, sz hz, atI_nat h, k⟩
theorem i_lenT {p : Addr} {xs : List V} (h : SqT K H p xs) (k : Q (.int xs.length) H) : rLen K [.ref p] H Q := .inl ⟨p, xs, rfl, .inr h, k⟩
theorem i_lenL {p : Addr} {xs : List V} (h : SqL K H p xs) (k : Q (.int xs.length) H) : rLen K [.ref p] H Q := .inl ⟨p, xs, rfl, .inl h, k⟩
theorem i_lenS {z : Str} (h : z.length ≤ 100000) (k : Q (.int z.length) H) : rLen K [.str z] H Q := .inr ⟨z, rfl, sz h, k⟩
theorem i_inT {p : Addr} {xs : List V} {neg : Bool} (h : SqT K H p xs) (fx : flatV x = true) (fs : xs.all flatV = true) (k : Q (.bl (if neg then !inV x xs else inV x xs)) H) : rIn K neg x (.ref p) H Q := ⟨p, xs, rfl, .inr h, fx, fs, k⟩
theorem i_inL {p : Addr} {xs : List V} {neg : Bool} (h : SqL K H p xs) (fx : flatV x = true) (fs : xs.all flatV = true) (k : Q (.bl (if neg then !inV x xs else inV x xs)) H) : rIn K neg x (.ref p) H Q := ⟨p, xs, rfl, .inl h, fx, fs, k⟩
theorem i_sign {c : Nat} {z : Str} (k : Q (.bl (decide (c ∈ tl z))) H) : rInS (.str ⟨#[c]⟩) (.str z) H Q := ⟨c, z, rfl, rfl, k⟩
theorem i_notSign {c : Nat} {z : Str} (k : Q (.bl (!decide (c ∈ tl z))) H) : rNotInS (.str ⟨#[c]⟩) (.str z) H Q := ⟨c, z, rfl, rfl, k⟩
theorem i_I {C : Int → Int → Prop} {g : Int → Int → V} (h : C a b) (k : Q (g a b) H) : rI C g (.int a) (.int b) H Q := ⟨a, b, rfl, rfl, h, k⟩
theorem i_eqNL {p q : Addr} {xs : List V} (h : SqL K H p xs) (h2 : SqL K H q []) (k : Q (.bl xs.isEmpty) H) : rEqN K (.ref p) (.ref q) H Q := ⟨p, q, xs, rfl, rfl, .inl ⟨h, h2⟩, k⟩
theorem i_neNL {p q : Addr} {xs : List V} (h : SqL K H p xs) (h2 : SqL K H q []) (k : Q (.bl (!xs.isEmpty)) H) : rNeN K (.ref p) (.ref q) H Q := ⟨p, q, xs, rfl, rfl, .inl ⟨h, h2⟩, k⟩
theorem i_neNT {p q : Addr} {xs : List V} (h : SqT K H p xs) (h2 : SqT K H q []) (k : Q (.bl (!xs.isEmpty)) H) : rNeN K (.ref p) (.ref q) H Q := ⟨p, q, xs, rfl, rfl, .inr ⟨h, h2⟩, k⟩
theorem i_isN (k : Q (.bl (decide (x = .non))) H) : rIsN x .non H Q := ⟨rfl, k⟩
theorem i_notN (k : Q (.bl (!decide (x = .non))) H) : rNotN x .non H Q := ⟨rfl, k⟩
/-- a display: its address is new -/
theorem i_new {xs : List V} {P : Addr → Prop} (hl : xs.length ≤ 100000) (k : ∀ p, H p = none → P p) : xs.length ≤ sizeLine ∧ ∀ p, H p = none → P p := ⟨sz hl, k⟩
/-- a, b = a tuple -/
theorem i_gtup {p : Addr} {xs : List V} (h : SqT K H p xs) (hl : xs.length = n) (k : gs xs σ H R) : gTup K n gs (.ref p) σ H R := ⟨p, xs, rfl, h, hl, k⟩
theorem i_gcons (k : g v σ H fun σ' H' => gs vs σ' H' R) : gCons g gs (v :: vs) σ H R := ⟨v, vs, rfl, k⟩
theorem i_gnil (k : R σ H) : gNil [] σ H R := ⟨rfl, k⟩
end
/-! ### signs of a text that are not in another -/
/-- one-sign texts -/
def signV (c : Nat) : V := .str ⟨#[c]⟩
theorem lc_signs {σ : L2.St} {H : Hp} {Qd : Hp → Prop} {z T : Str} {i : Nat} {tT : TE} (hi : ∀ v, wipe ((wipe σ [i]).set i (some v)) [i] = wipe σ [i]) (hv : ∀ v, ((wipe σ [i]).set i (some v))[i]? = some (some v)) (hz : z.length ≤ 100000)
    (hT : ∀ v H1 (Q1 : VK), Q1 (.str T) H1 → tT ((wipe σ [i]).set i (some v)) H1 Q1)
    {D0 : Addr} (hD : H D0 = none) (k : ∀ H', Same H H' → H' D0 = some (.lst (((tl z).filter fun c => !decide (c ∈ tl T)).map signV)) → Qd H') :
    ∃ W : Nat → Nat → Hp → Prop, (∃ m, W 0 m (upd H D0 (.lst []))) ∧ ∀ j m H, W j m H →
      ((Its z).stop j H ∧ Qd H) ∨ ((Its z).go j H ∧ ∃ Nx : Hp → Prop, (∀ H', Nx H' → ∃ m', m' < m ∧ W (j + 1) m' H') ∧ ∀ x H', (Its z).yld j H x H' → gName i x (wipe σ [i]) H' fun σ2 H2 => wipe σ2 [i] = wipe σ [i] ∧ tTest (tOp rNotInS (tVar i) tT) σ2 H2 fun b H3 =>
        if b = true then tVar i σ2 H3 fun y H4 => ∃ acc, H4 D0 = some (.lst acc) ∧ acc.length < sizeLine ∧ Nx (upd H4 D0 (.lst (acc ++ [y]))) else Nx H3) := by
  refine lc_it (walk_str (z := z)) (fun j G => Same H G ∧ G D0 = some (.lst ((((tl z).take j).filter fun c => !decide (c ∈ tl T)).map signV))) ⟨Same.new hD, by simp [upd_same]⟩ (fun _ _ _ _ => trivial) ?_ ?_
  · rintro j x G G' hj ⟨s, g⟩ ⟨rfl, c, hc, rfl⟩
    refine ⟨hi _, ?_⟩
    refine ⟨_, hv _, hT _ _ _ ?_⟩
    refine ⟨c, T, rfl, rfl, _, rfl, ?_⟩
    have ec : (tl z)[j]? = some c := by
      show z.cps.toList[j]? = some c
      rw [Array.getElem?_toList]
      exact hc
    have et : (tl z).take (j + 1) = (tl z).take j ++ [c] := by rw [List.take_succ, ec]; rfl
    by_cases q : c ∈ tl T
    · rw [decide_eq_true (show c ∈ T.cps.toList from q)]
      refine i_itf rfl ⟨s, ?_⟩
      rw [et, List.filter_append, List.filter_cons, decide_eq_true q]
      simpa using g
    · rw [decide_eq_false (show ¬ c ∈ T.cps.toList from q)]
      refine i_ite rfl ⟨_, hv _, _, g, ?_, Same.mut s hD, ?_⟩
      · refine szl (Nat.le_trans ?_ hz)
        rw [List.length_map]
        refine Nat.le_trans (List.length_filter_le _ _) ?_
        rw [List.length_take, len_tl]
        exact Nat.min_le_right _ _
      · rw [upd_same, et, List.filter_append, List.map_append, List.filter_cons, decide_eq_false q]
        rfl
  · rintro G ⟨s, g⟩
    refine k G s ?_
    rw [g, List.take_of_length_le]
    show z.cps.toList.length ≤ z.cps.size
    simp
end K04
/-! text R1 -/
set_option Elab.async false
set_option linter.all false
set_option maxRecDepth 100000
set_option maxHeartbeats 4000000
/-! Steps of loops, lists, tuples, texts; data without lists -/
namespace K04
open PySem PySem.Spec PyProof.Rows L2 TL
section
variable {K : PySem.W.Frag} {w : World} {σ : L2.St} {H : Hp} {Q : VK} {Qb : Bool → Hp → Prop} {R : L2.St → Hp → Prop} {D : Ends} {v x y : V} {i j k n : Nat} {a b : Int} {te ta tb tc : TE} {tt tu tw : TT} {ts tz : TS} {tas tr : TA} {g : TG} {gs : TGs} {r r' : R2} {dvs vs : List V} {E : XK} {sp : Sp} {tl' th : TO} {wi : TI} {RI : It → Hp → Prop}
theorem i_tyL {p : Addr} {xs : List V} {P : Prop} (h : SqL K H p xs) (q : P) : tyV K "list" (.ref p) H ∧ P := ⟨.inl ⟨rfl, xs, h⟩, q⟩
theorem i_append {l : Addr} {xs : List V} (h : H l = some (.lst xs)) (hz : xs.length ≤ 99999) (q : Q .non (upd H l (.lst (xs ++ [y])))) : rAppend (.ref l) [y] H Q := ⟨l, xs, y, rfl, rfl, h, szl (by omega), q⟩
theorem i_extend {l c : Addr} {xs zs : List V} (h : H l = some (.lst xs)) (h2 : H c = some (.lst zs)) (hz : xs.length + zs.length ≤ 100000) (q : Q .non (upd H l (.lst (xs ++ zs)))) : rExtend (.ref l) [.ref c] H Q := ⟨l, c, xs, zs, rfl, rfl, h, h2, sz hz, q⟩
theorem i_pop {l : Addr} {xs : List V} (h : H l = some (.lst (xs ++ [y]))) (q : Q y (upd H l (.lst xs))) : rPop (.ref l) [] H Q := ⟨l, xs ++ [y], y, rfl, rfl, h, by simp, by rw [List.dropLast_concat]; exact q⟩
theorem i_catL {l c : Addr} {xs zs : List V} (h : H l = some (.lst xs)) (h2 : H c = some (.lst zs)) (hz : xs.length + zs.length ≤ 100000) (q : ∀ p, H p = none → Q (.ref p) (upd H p (.lst (xs ++ zs)))) : rCat (.ref l) (.ref c) H Q := ⟨l, c, xs, zs, rfl, rfl, h, h2, sz hz, q⟩
theorem i_catA {l c : Addr} {xs zs : List V} (h : SqT K H l xs) (h2 : SqT K H c zs) (hz : xs.length + zs.length ≤ 100000) (hx : xs ≠ []) (hy : zs ≠ []) (q : ∀ p, H p = none → Q (.ref p) (upd H p (.tup (xs ++ zs)))) : rCatA K (.ref l) (.ref c) H Q :=
  ⟨l, c, xs, zs, rfl, rfl, h, h2, sz hz, fun z => absurd z hx, fun _ z => absurd z hy, fun _ _ => q⟩
theorem i_slA {l : Addr} {xs : List V} {lo hi : Option Int} (h : SqT K H l xs) (hw : ¬ (HT.sIx xs.length 0 lo = 0 ∧ HT.sIx xs.length xs.length hi = xs.length)) (q : ∀ p, H p = none → Q (.ref p) (upd H p (.tup (cutV xs lo hi)))) : rSlA K (.ref l) lo hi H Q :=
  ⟨l, xs, rfl, h, fun z => absurd z hw, fun _ => q⟩
theorem i_slL {l : Addr} {xs : List V} {lo hi : Option Int} (h : SqL K H l xs) (q : ∀ p, H p = none → Q (.ref p) (upd H p (.lst (cutV xs lo hi)))) : rSlL K (.ref l) lo hi H Q := ⟨l, xs, rfl, h, q⟩
theorem i_slS {z : Str} {lo hi : Option Int} (hz : z.length ≤ 100000) (q : Q (.str (cutS z lo hi)) H) : rSlS (.str z) lo hi H Q := ⟨z, rfl, sz hz, q⟩
theorem i_for (q : wi σ H fun J H1 => ∃ W : Nat → Nat → L2.St → Hp → Prop, (∃ m, W 0 m σ H1) ∧ ∀ i m σ H, W i m σ H →
  (J.stop i H ∧ D.nx σ H) ∨ (J.go i H ∧ ∃ N : L2.St → Hp → Prop, (∀ σ' H', N σ' H' → ∃ m', m' < m ∧ W (i + 1) m' σ' H') ∧ ∀ x H', J.yld i H x H' → g x σ H' fun σ2 H2 => ts { D with nx := N, ct := N, bk := D.nx } σ2 H2)) : tFor wi g ts D σ H := q
theorem i_iTup (q : te σ H fun x H1 => ∃ a, x = .ref a ∧ (∃ xs, SqT K H1 a xs) ∧ RI (Itt K a) H1) : iTup K te σ H RI := q
theorem i_iList (q : te σ H fun x H1 => ∃ a, x = .ref a ∧ (∃ xs, SqL K H1 a xs) ∧ RI (Itl K a) H1) : iList K te σ H RI := q
theorem i_iStr (q : te σ H fun x H1 => ∃ z, x = .str z ∧ RI (Its z) H1) : iStr te σ H RI := q
theorem i_iRng1 (q : tas σ H fun vs H1 => ∃ j : Int, vs = [.int j] ∧ -(2 ^ 62) ≤ j ∧ j < 2 ^ 62 ∧ RI (Itr 0 j.toNat) H1) : iRng1 tas σ H RI := q
theorem i_iRng2 (q : tas σ H fun vs H1 => ∃ i j : Int, vs = [.int i, .int j] ∧ (-(2 ^ 62) ≤ i ∧ i < 2 ^ 62 ∧ -(2 ^ 62) ≤ j ∧ j < 2 ^ 62) ∧ RI (Itr i (j - i).toNat) H1) : iRng2 tas σ H RI := q
theorem i_iEnum (q : tas σ H fun vs H1 => ∃ a xs, vs = [.ref a] ∧ SqL K H1 a xs ∧ RI (Ite K a) H1) : iEnum K tas σ H RI := q
theorem i_lc {vl : List Nat} (q : wi σ H fun J H1 => ∀ D, H1 D = none → ∃ W : Nat → Nat → Hp → Prop, (∃ m, W 0 m (upd H1 D (.lst []))) ∧ ∀ i m H, W i m H →
  (J.stop i H ∧ Q (.ref D) H) ∨ (J.go i H ∧ ∃ Nx : Hp → Prop, (∀ H', Nx H' → ∃ m', m' < m ∧ W (i + 1) m' H') ∧ ∀ x H', J.yld i H x H' → g x (wipe σ vl) H' fun σ2 H2 => wipe σ2 vl = wipe σ vl ∧ tt σ2 H2 fun b H3 =>
    if b = true then te σ2 H3 fun y H4 => ∃ acc, H4 D = some (.lst acc) ∧ acc.length < sizeLine ∧ Nx (upd H4 D (.lst (acc ++ [y]))) else Nx H3)) : tLc wi g tt te vl σ H Q := q
theorem i_yes (q : Qb true H) : tYes σ H Qb := q
theorem i_while (q : ∃ W : Nat → L2.St → Hp → Prop, (∃ m, W m σ H) ∧ ∀ m σ H, W m σ H →
  tt σ H fun b H1 => if b = true then ∃ N : L2.St → Hp → Prop, (∀ σ' H', N σ' H' → ∃ m', m' < m ∧ W m' σ' H') ∧ ts { D with nx := N, ct := N, bk := D.nx } σ H1 else D.nx σ H1) : tWhile tt ts D σ H := q
theorem i_N {m : Nat} {W : Nat → L2.St → Hp → Prop} (q : ts { D with nx := fun σ' H' => ∃ m', m' < m ∧ W m' σ' H', ct := fun σ' H' => ∃ m', m' < m ∧ W m' σ' H', bk := D.nx } σ H) :
    ∃ N : L2.St → Hp → Prop, (∀ σ' H', N σ' H' → ∃ m', m' < m ∧ W m' σ' H') ∧ ts { D with nx := N, ct := N, bk := D.nx } σ H := ⟨_, fun _ _ z => z, q⟩
theorem i_revL {te : TE} (q : te σ H fun x H1 => ∃ a xs, x = .ref a ∧ SqL K H1 a xs ∧ ∀ p, H1 p = none → Q (.ref p) (upd H1 p (.lst xs.reverse))) : tRevL K te σ H Q := q
theorem i_fld {f : Str} (q : ta σ H fun x H1 => ∃ a C dx fs v, x = .ref a ∧ H1 a = some (.ins C dx fs) ∧ Cls K C ∧ NoAttr K C f ∧ fs.lookup f = some v ∧ Q v H1) : tFld K ta f σ H Q := q
theorem i_sfld {f : Str} (q : tb σ H fun y H1 => ta σ H1 fun x H2 => ∃ a C dx fs, x = .ref a ∧ H2 a = some (.ins C dx fs) ∧ Cls K C ∧ NoAttr K C f ∧ fs.length < 1000 ∧ D.nx σ (upd H2 a (.ins C dx (putF f y fs)))) : sFld K ta tb f D σ H := q
theorem i_fld1 {f : Str} {a C dx : Addr} {fs : List (Str × V)} {P : V → Prop} (h : H a = some (.ins C dx fs)) (c : Cls K C) (n : NoAttr K C f) (l : fs.lookup f = some v) (q : P v) :
    ∃ a' C dx fs v, V.ref a = .ref a' ∧ H a' = some (.ins C dx fs) ∧ Cls K C ∧ NoAttr K C f ∧ fs.lookup f = some v ∧ P v := ⟨a, C, dx, fs, v, rfl, h, c, n, l, q⟩
theorem i_meth {C : Addr} {m : Str} {tas : TA} (q : ta σ H fun x H1 => ∃ a dx fs, x = .ref a ∧ H1 a = some (.ins C dx fs) ∧ fs.lookup m = none ∧ tas σ H1 fun vs H2 => sp (x :: (vs ++ dvs)) H2 Q E) : tMeth C m sp dvs E ta tas σ H Q := q
theorem i_make {C : Addr} {tas : TA} (q : tas σ H fun vs H1 => ∀ x dx, H1 x = none → H1 dx = none → dx ≠ x →
  sp (.ref x :: (vs ++ dvs)) (upd (upd H1 dx (.own x)) x (.ins C dx [])) (fun v H2 => v = .non ∧ Q (.ref x) H2) E) : tMake C sp dvs E tas σ H Q := q
theorem i_strI {i : Int} (h : i.natAbs.log2 < 1920) (q : Q (.str (toString i)) H) : rStr [.int i] H Q := .inl ⟨i, rfl, h, q⟩
theorem i_strS {z : Str} (q : Q (.str z) H) : rStr [.str z] H Q := .inr ⟨z, rfl, q⟩
theorem i_intI {i : Int} (q : Q (.int i) H) : rInt [.int i] H Q := .inl (.inl ⟨i, rfl, q⟩)
theorem i_intB {c : Bool} (q : Q (.int (if c then 1 else 0)) H) : rInt [.bl c] H Q := .inl (.inr ⟨c, rfl, q⟩)
theorem i_intS {z : Str} {i : Int} (h : PySem.intText? z = some i) (hz : z.length ≤ 640) (q : Q (.int i) H) : rInt [.str z] H Q := .inr ⟨z, i, rfl, h, hz, q⟩
end
/-! ### data without lists: kept where tuples are kept -/
mutual
def noL : PyData → Bool
  | .list _ => false
  | .tuple ds => noLs ds
  | .none => true
  | .bool _ => true
  | .int _ => true
  | .str _ => true
  | _ => false
def noLs : List PyData → Bool
  | [] => true
  | d :: r => noL d && noLs r
end
def TK (H H' : Hp) : Prop := ∀ a xs, Rd H a (.tup xs) → Rd H' a (.tup xs)
theorem TK.refl (H : Hp) : TK H H := fun _ _ h => h
theorem TK.trans {H H1 H2 : Hp} (a : TK H H1) (b : TK H1 H2) : TK H H2 := fun x xs h => b x xs (a x xs h)
theorem TK.of {H H' : Hp} (e : Same H H') : TK H H' := fun _ _ h => Same.rd e h
theorem TK.upd {H : Hp} {p : Addr} {o u : HO} (h : H p = some u) (h1 : ∀ xs, u ≠ .tup xs) (h2 : ∀ ob xs, u ≠ .frz ob (.tup xs)) : TK H (upd H p o) := fun a xs r => by
  have ne : a ≠ p := by
    rintro rfl
    rcases r with r | ⟨ob, r⟩
    · rw [h] at r; exact h1 xs (Option.some.inj r)
    · rw [h] at r; exact h2 ob xs (Option.some.inj r)
  rcases r with r | ⟨ob, r⟩
  · exact .inl (by rw [upd_ne ne]; exact r)
  · exact .inr ⟨ob, by rw [upd_ne ne]; exact r⟩
theorem TK.lst {H : Hp} {p : Addr} {o : HO} {xs : List V} (h : H p = some (.lst xs)) : TK H (L2.upd H p o) := TK.upd h (fun _ z => by cases z) (fun _ _ z => by cases z)
theorem TK.ins {H : Hp} {p : Addr} {o : HO} {C dx : Addr} {fs : List (Str × V)} (h : H p = some (.ins C dx fs)) : TK H (L2.upd H p o) := TK.upd h (fun _ z => by cases z) (fun _ _ z => by cases z)
theorem TK.new {H : Hp} {p : Addr} {o : HO} (h : H p = none) : TK H (L2.upd H p o) := TK.of (Same.new h)
mutual
theorem dp_tk {K : PySem.W.Frag} {H H' : Hp} (e : TK H H') : ∀ {v : V} {d : PyData}, noL d = true → Dp K H v d → Dp K H' v d
  | _, _, _, .non => .non
  | _, _, _, .bl b => .bl b
  | _, _, _, .int i => .int i
  | _, _, _, .str x => .str x
  | _, _, n, .lst h r => by cases n
  | _, _, n, .tup h r => .tup (h.imp (fun z => e _ _ z) id) (dpa_tk e n r)
theorem dpa_tk {K : PySem.W.Frag} {H H' : Hp} (e : TK H H') : ∀ {vs : List V} {ds : List PyData}, noLs ds = true → DpAll K H vs ds → DpAll K H' vs ds
  | _, _, _, .nil => .nil
  | _, _, n, .cons h r => by
    have n2 : (noL _ && noLs _) = true := n
    rw [Bool.and_eq_true] at n2
    exact .cons (dp_tk e n2.1 h) (dpa_tk e n2.2 r)
end
theorem noL_ex : ∀ e : Ex, noL e.py = true
  | .num _ => rfl
  | .nam _ => rfl
  | .bin o a b => by simp [Ex.py, noL, noLs, noL_ex a, noL_ex b]
theorem noL_te : ∀ t : Te, noL t.py = true
  | .less a b => by simp [Te.py, noL, noLs, noL_ex a, noL_ex b]
  | .rest e _ _ => by simp [Te.py, noL, noLs, noL_ex e]
  | .no t => by simp [Te.py, noL, noLs, noL_te t]
mutual
theorem noL_sm : ∀ s : Sm, noL s.py = true
  | .set x e => by simp [Sm.py, noL, noLs, noL_ex e]
  | .pay e => by simp [Sm.py, noL, noLs, noL_ex e]
  | .stop => rfl
  | .ift t y n => by simp [Sm.py, noL, noLs, noL_te t, noL_sms y, noL_sms n]
  | .cho h a b => by simp [Sm.py, noL, noLs, noL_sms a, noL_sms b]
  | .rep k b => by simp [Sm.py, noL, noLs, noL_sms b]
  | .half h a => by simp [Sm.py, noL, noLs, noL_sms a]
theorem noL_sms : ∀ l : List Sm, noLs (Sm.pys l) = true
  | [] => rfl
  | s :: r => by simp [Sm.pys, noLs, noL_sm s, noL_sms r]
end
end K04
/-! text W1 -/
set_option Elab.async false
set_option linter.all false
set_option maxRecDepth 100000
set_option maxHeartbeats 4000000
namespace K04
open PySem PySem.Spec PyProof.Rows L2
local macro_rules
  | `(tactic| walk_at "st") => `(tactic| repeat (with_reducible first
    | refine i_seq ?_ | refine i_ret ?_ | refine i_asg ?_ | refine i_name ?_ | refine i_ifs ?_ | refine i_test ?_ | refine i_B ?_ | refine i_bl ?_ | refine i_var (by with_unfolding_all rfl) ?_ | refine i_c ?_
    | refine i_op ?_ | refine i_un ?_ | refine i_cb ?_ | refine i_cons ?_ | refine i_nil ?_ | refine i_call ?_ | refine i_and ?_ | refine i_or ?_ | refine i_not ?_ | refine i_andV ?_ | refine i_orV ?_ | refine i_notV ?_ | refine i_if ?_
    | refine i_tup ?_ | refine i_lst ?_ | refine i_sl ?_ | refine i_nopart ?_ | refine i_part ?_ | refine i_int ?_ | refine i_chain ?_ | refine i_I0 ?_ | refine i_par ?_ | refine i_two ?_ | refine i_bm ?_ | refine i_bm0 ?_ | refine i_m1 ?_ | refine i_tyS ?_ | refine i_str ?_
    | refine i_next ?_ | refine i_drop ?_ | refine i_retN ?_ | refine i_gsub ?_ | refine i_ipI ?_ | refine i_aug (by with_unfolding_all rfl) ?_
    | refine i_eq (by with_unfolding_all rfl) ?_ | refine i_ne (by with_unfolding_all rfl) ?_))
abbrev N_is_whole : List Str := ["value", "least", "most"]
theorem sc_is_whole : FnScope N_is_whole ["value", "least", "most"] (defScope s_is_whole) := ⟨rfl, rfl, rfl, by decide +kernel, rfl, by decide +kernel, by decide +kernel⟩
def sp_is_whole : Sp := fun vs H Q _ => ∃ (i a b : Int), vs = [.int i, .int a, .int b] ∧ a ≤ i ∧ i ≤ b ∧ Q (.bl true) H
section
variable {P : Program} {w : World} {K : PySem.W.Frag} {mg : Str → Option Value} {base : Heap}
theorem ok_is_whole (T : Txt w K mg) : Cl P w K mg base CX0 1 "is_whole" ["value", "least", "most"] sp_is_whole := by
  obtain ⟨fd, F⟩ := T.d_is_whole
  refine ⟨_, fd, T.g_is_whole, F.kp, (FunD.bindsN F (fun _ _ _ _ _ _ us hl => match us, hl with | [_, _, _], _ => rfl)), F.ok sc_is_whole (fun vs H Q E h => ?len) (fun cdv A outer s H vs Q E hr h => ?run)⟩
  case len =>
    obtain ⟨i, a, b, rfl, _⟩ := h
    rfl
  refine ⟨_, PSs.nox (pss_one (ps_ret (pe_and (pe_callB call_isi (by rfl) T.f_isinstance (by decide +kernel) (pa_cons (pv 0) (pa_cons (pe_bltn (v := .ty "int") rfl T.f_int boot_int rfl) pa_nil))) (pe_and (pe_not (pe_callB call_isi (by rfl) T.f_isinstance (by decide +kernel) (pa_cons (pv 0) (pa_cons (pe_bltn (v := .ty "bool") rfl T.f_bool boot_bool rfl) pa_nil)))) (pe_one (pe_chain op_le op_le (pv 1) (pv 0) (pv 2))))))), ?_⟩
  obtain ⟨i, a, b, rfl, ha, hb, k⟩ := h
  walk_at "st"
  refine r_y (.base (.int _)) ?_
  walk_at "st"
  refine i_ite rfl ?_
  walk_at "st"
  refine r_n (.base (.int _)) ?_
  walk_at "st"
  refine i_ite rfl ?_
  walk_at "st"
  refine i_ite (decide_eq_true ha) ?_
  walk_at "st"
  rw [decide_eq_true hb]
  exact k
end
end K04
/-! text A1 -/
set_option Elab.async false
set_option linter.all false
set_option maxRecDepth 100000
set_option maxHeartbeats 4000000
namespace K04
open PySem PySem.Spec PyProof.Rows L2 TL
local macro_rules
  | `(tactic| walk_at "st") => `(tactic| repeat (with_reducible first
    | refine i_seq ?_ | refine i_ret ?_ | refine i_asg ?_ | refine i_name ?_ | refine i_ifs ?_ | refine i_test ?_ | refine i_B ?_ | refine i_bl ?_ | refine i_var (by with_unfolding_all rfl) ?_ | refine i_c ?_
    | refine i_op ?_ | refine i_un ?_ | refine i_cb ?_ | refine i_cons ?_ | refine i_nil ?_ | refine i_call ?_ | refine i_and ?_ | refine i_or ?_ | refine i_not ?_ | refine i_andV ?_ | refine i_orV ?_ | refine i_notV ?_ | refine i_if ?_
    | refine i_tup ?_ | refine i_lst ?_ | refine i_sl ?_ | refine i_nopart ?_ | refine i_part ?_ | refine i_int ?_ | refine i_chain ?_ | refine i_I0 ?_ | refine i_par ?_ | refine i_two ?_ | refine i_bm ?_ | refine i_bm0 ?_ | refine i_m1 ?_ | refine i_tyS ?_ | refine i_str ?_
    | refine i_for ?_ | refine i_iTup ?_ | refine i_iList ?_ | refine i_iStr ?_ | refine i_iRng1 ?_ | refine i_iRng2 ?_ | refine i_iEnum ?_ | refine i_lc ?_ | refine i_yes ?_ | refine i_revL ?_ | refine i_fld ?_ | refine i_sfld ?_ | refine i_meth ?_ | refine i_make ?_ | refine i_isN ?_ | refine i_notN ?_ | refine i_intB ?_ | refine i_intI ?_
    | refine i_next ?_ | refine i_drop ?_ | refine i_retN ?_ | refine i_gsub ?_ | refine i_ipI ?_ | refine i_aug (by with_unfolding_all rfl) ?_
    | refine i_eq (by with_unfolding_all rfl) ?_ | refine i_ne (by with_unfolding_all rfl) ?_))
abbrev N_is_name_programs : List Str := ["value", "sign"]
theorem sc_is_name_programs : FnScope N_is_name_programs ["value"] (defScope s_is_name_programs) := ⟨rfl, rfl, rfl, by decide +kernel, rfl, by decide +kernel, by decide +kernel⟩
abbrev N_is_expression : List Str := ["value", "left"]
theorem sc_is_expression : FnScope N_is_expression ["value", "left"] (defScope s_is_expression) := ⟨rfl, rfl, rfl, by decide +kernel, rfl, by decide +kernel, by decide +kernel⟩
theorem nameOk_f {l : List Nat} (h : nameOk l = true) : ∃ c r, l = c :: r ∧ l.length ≤ 8 ∧ c ∈ letters ∧ (∀ x ∈ l, x ∈ letters ++ figs) ∧ l ∉ kept := by
  obtain ⟨c, r, a, b, d, e, f⟩ := name_all h
  exact ⟨c, r, a, d, b, e, f⟩
theorem lets_p : tl "abcdefghijklmnopqrstuvwxyz" = letters := tl_cs _
theorem signs_p : tl "abcdefghijklmnopqrstuvwxyz0123456789" = letters ++ figs := by rw [show tl "abcdefghijklmnopqrstuvwxyz0123456789" = cs "abcdefghijklmnopqrstuvwxyz0123456789" from tl_cs _]; decide +kernel
theorem inV_kept {x : Str} : inV (.str x) [.str "set", .str "pay", .str "stop", .str "if", .str "else", .str "we", .str "they", .str "or", .str "repeat", .str "pass", .str "rest", .str "of", .str "not", .str "program"] = decide (tl x ∈ kept) := by
  have e : ∀ (s : String), (eqV (.str (Str.ofString s)) (.str x)) = decide (tl x = cs s) := fun s => by
    show (Str.ofString s == x) = _
    by_cases h : Str.ofString s = x
    · subst h; rw [tl_cs]; simp
    · have h2 : ¬ tl x = cs s := fun z => h (by rw [← mk_cs, ← z, mk_tl'])
      rw [decide_eq_false h2]
      simpa using h
  show (_ || (_ || (_ || (_ || (_ || (_ || (_ || (_ || (_ || (_ || (_ || (_ || (_ || (_ || false)))))))))))))) = _
  simp only [kept, List.mem_cons, List.not_mem_nil, or_false]
  rw [show eqV (.str "set") (.str x) = _ from e "set", show eqV (.str "pay") (.str x) = _ from e "pay", show eqV (.str "stop") (.str x) = _ from e "stop", show eqV (.str "if") (.str x) = _ from e "if", show eqV (.str "else") (.str x) = _ from e "else",
    show eqV (.str "we") (.str x) = _ from e "we", show eqV (.str "they") (.str x) = _ from e "they", show eqV (.str "or") (.str x) = _ from e "or", show eqV (.str "repeat") (.str x) = _ from e "repeat", show eqV (.str "pass") (.str x) = _ from e "pass",
    show eqV (.str "rest") (.str x) = _ from e "rest", show eqV (.str "of") (.str x) = _ from e "of", show eqV (.str "not") (.str x) = _ from e "not", show eqV (.str "program") (.str x) = _ from e "program"]
  simp only [Bool.decide_or, Bool.or_false]
def sp_is_name_p : Sp := fun vs H Q _ => ∃ v, vs = [v] ∧ ((∃ x : Str, v = .str x ∧ nameOk (tl x) = true ∧ ∀ H', Same H H' → Q (.bl true) H') ∨ ∃ i, v = .int i ∧ ∀ H', Same H H' → Q (.bl false) H')
section
variable {P : Program} {w : World} {K : PySem.W.Frag} {mg : Str → Option Value} {base : Heap}
theorem ok_is_name_p (T : Txt w K mg) : Cl P w K mg base CX0 1 "is_name_programs" ["value"] sp_is_name_p := by
  obtain ⟨fd, F⟩ := T.d_is_name_programs
  obtain ⟨_, hc_LETTERS_programs⟩ := T.c_LETTERS_programs
  obtain ⟨_, hc_MAX_NAME⟩ := T.c_MAX_NAME
  obtain ⟨_, hc_SIGNS_programs⟩ := T.c_SIGNS_programs
  refine ⟨_, fd, T.g_is_name_programs, F.kp, (FunD.bindsN F (fun _ _ _ _ _ _ us hl => match us, hl with | [_], _ => rfl)), F.ok sc_is_name_programs (fun vs H Q E h => ?len) (fun cdv A outer s H vs Q E hr h => ?run)⟩
  case len =>
    obtain ⟨v, rfl, _⟩ := h
    rfl
  refine ⟨_, PSs.nox (pss_cons (ps_if (PW.pt (pw_or (pt_not (pt_val (pe_callB call_isi (by rfl) T.f_isinstance (by decide +kernel) (pa_cons (pv 0) (pa_cons (pe_bltn (v := .ty "str") rfl T.f_str boot_str rfl) pa_nil))))) (pw_or (pt_not (pt_chain op_le op_le pe_int (pe_callB call_lenX (by rfl) T.f_len (by decide +kernel) (pa_cons (pv 0) pa_nil)) (pe_glob (v := .int 8) rfl hc_MAX_NAME ⟨_, rfl⟩))) (pw_or1 (pt_cmpR op_notInS (pe_ix ix_str (pv 0) pe_int (fun _ _ => rfl)) (pe_glob (v := .str "abcdefghijklmnopqrstuvwxyz") rfl hc_LETTERS_programs ⟨_, rfl⟩) (by rfl)))))) (pss_one (ps_ret pe_bl)) pss_nil)
      (pss_one (ps_ret (pe_and (pe_cmpR (op_eqN hr.units0) (pe_lc (own := [("sign", 1)]) rfl sc_is_name_programs.nd (pi_str (pv 0)) (blkOk_by (own := [("sign", 1)]) (N := N_is_name_programs) (sc := (defScope s_is_name_programs)) (by decide +kernel)) (fun _ _ _ _ _ => pg_name (i := 1) sc_is_name_programs.nd rfl (Or.inl rfl)) (fun _ _ _ _ _ => (pts_one (pt_cmpR op_notInS (pv 1) (pe_glob (v := .str "abcdefghijklmnopqrstuvwxyz0123456789") rfl hc_SIGNS_programs ⟨_, rfl⟩) (by rfl)))) (fun _ _ _ _ _ => (pv 1))) (pe_lst pa_nil) (nomark _)) (pe_one (pe_cmpR op_notIn_seq (pv 0) (pe_glob (v := .ref _) rfl T.g_KEPT rfl) (by rfl))))))), ?_⟩
  obtain ⟨v, rfl, h⟩ := h
  rcases h with ⟨x, rfl, hn, k⟩ | ⟨i, rfl, k⟩
  · obtain ⟨c, r, el, hl, hc, ha, hk⟩ := nameOk_f hn
    have h8 : x.length ≤ 8 := by rw [len_tl]; exact hl
    have h1 : 1 ≤ x.length := by rw [len_tl, el]; simp
    walk_at "st"
    refine r_y (.base (.str _)) ?_
    walk_at "st"
    refine i_itf rfl ?_
    walk_at "st"
    refine i_lenS (by omega) ?_
    walk_at "st"
    refine i_ite (decide_eq_true (by omega)) ?_
    walk_at "st"
    rw [show decide ((x.length : Int) ≤ 8) = true from decide_eq_true (by omega)]
    refine i_itf rfl ?_
    walk_at "st"
    refine i_ixS (j := 0) (c := c) (by omega) (by rw [el]; rfl) ?_
    walk_at "st"
    refine i_notSign ?_
    walk_at "st"
    rw [show decide (c ∈ tl "abcdefghijklmnopqrstuvwxyz") = true from decide_eq_true (by rw [lets_p]; exact hc)]
    refine i_itf rfl ?_
    walk_at "st"
    refine ⟨x, rfl, fun D hD => ?_⟩
    refine lc_signs (z := x) (i := 1) (T := "abcdefghijklmnopqrstuvwxyz0123456789") ?_ ?_ (by omega) ?_ hD (fun H' s e => ?_)
    · exact fun _ => rfl
    · exact fun _ => rfl
    · exact fun v H1 Q1 q => q
    have ee : ((tl x).filter fun c => !decide (c ∈ tl "abcdefghijklmnopqrstuvwxyz0123456789")) = [] := List.filter_eq_nil_iff.mpr fun y hy => by
      rw [signs_p, decide_eq_true (ha y hy)]; decide
    rw [ee] at e
    walk_at "st"
    refine i_new (by simp) fun p hp => ?_
    refine i_eqNL (.inl (.inl ((Same.new hp) _ _ e))) (.inl (.inl upd_same)) ?_
    walk_at "st"
    refine i_ite rfl ?_
    walk_at "st"
    refine i_inT (T.t_KEPT _) rfl rfl ?_
    walk_at "st"
    rw [inV_kept, decide_eq_false hk]
    exact k _ (Same.grow s hp)
  · walk_at "st"
    refine r_n (.base (.int _)) ?_
    walk_at "st"
    refine i_ite rfl ?_
    walk_at "st"
    refine i_ite rfl ?_
    walk_at "st"
    exact k _ (Same.refl _)
/-! is_expression -/
def sp_is_ex (n : Nat) : Sp := fun vs H Q _ => ∃ (v : V) (e : Ex), vs = [v, .int (n : Int)] ∧ Dp K H v e.py ∧ e.ok n = true ∧ ∀ H', Same H H' → Q (.bl true) H'
theorem opw_in (o : Op3) : inV (.str o.word) [.str "plus", .str "minus"] = decide (o ≠ .times) := by cases o <;> decide +kernel
theorem dec1 (n : Nat) : (((n + 1 : Nat) : Int) - 1) = (n : Int) := by omega
theorem opw_eq (o : Op3) : decide (V.str o.word = .str "times") = decide (o = .times) := by cases o <;> decide +kernel
theorem ok_is_ex (T : Txt w K mg) : ∀ n : Nat, Cl P w K mg base CX0 (n + 1) "is_expression" ["value", "left"] (sp_is_ex (K := K) n)
| 0 => by
  obtain ⟨fd, F⟩ := T.d_is_expression
  exact ⟨_, fd, T.g_is_expression, F.kp, (FunD.bindsN F (fun _ _ _ _ _ _ us hl => match us, hl with | [_, _], _ => rfl)), F.ok sc_is_expression (fun vs H Q E h => ((show False by obtain ⟨v, e, _, _, z, _⟩ := h; simp [Ex.ok] at z)).elim) (fun cdv A outer s H vs Q E hr h => ((show False by obtain ⟨v, e, _, _, z, _⟩ := h; simp [Ex.ok] at z)).elim)⟩
| n + 1 => by
  have c_is_expression := ok_is_ex T n
  have c_is_name_programs := ok_is_name_p (P := P) (base := base) T
  have c_is_whole := ok_is_whole (P := P) (base := base) T
  obtain ⟨fd, F⟩ := T.d_is_expression
  obtain ⟨_, hc_MOST_NUMBER⟩ := T.c_MOST_NUMBER
  obtain ⟨_, hc_MOST_FACTOR⟩ := T.c_MOST_FACTOR
  refine ⟨_, fd, T.g_is_expression, F.kp, (FunD.bindsN F (fun _ _ _ _ _ _ us hl => match us, hl with | [_, _], _ => rfl)), F.ok sc_is_expression (fun vs H Q E h => ?len) (fun cdv A outer s H vs Q E hr h => ?run)⟩
  case len =>
    obtain ⟨v, e, rfl, _⟩ := h
    rfl
  refine ⟨_, PSs.nox (pss_cons (ps_if (pt_cmpR op_eq (pv 1) pe_int (nomark _)) (pss_one (ps_ret pe_bl)) pss_nil)
      (pss_cons (ps_if (pt_not (pt_val (pe_callB call_isi (by rfl) T.f_isinstance (by decide +kernel) (pa_cons (pv 0) (pa_cons (pe_bltn (v := .ty "tuple") rfl T.f_tuple boot_tuple rfl) pa_nil))))) (pss_one (ps_ret (pe_or (pcl c_is_name_programs (hr.mono (by omega)) (pa_cons (pv 0) pa_nil)) (pe_one (pcl c_is_whole (hr.mono (by omega)) (pa_cons (pv 0) (pa_cons (pe_op op_sub pe_int (pe_glob (v := .int 99) rfl hc_MOST_NUMBER ⟨_, rfl⟩)) (pa_cons (pe_glob (v := .int 99) rfl hc_MOST_NUMBER ⟨_, rfl⟩) pa_nil)))))))) pss_nil)
      (pss_cons (ps_if (PW.pt (pw_or (pt_cmpR op_ne (pe_callB call_lenX (by rfl) T.f_len (by decide +kernel) (pa_cons (pv 0) pa_nil)) pe_int (nomark _)) (pw_or (pt_not (pt_val (pe_callB call_isi (by rfl) T.f_isinstance (by decide +kernel) (pa_cons (pe_ix ix_tup (pv 0) pe_int (fun _ _ => rfl)) (pa_cons (pe_bltn (v := .ty "str") rfl T.f_str boot_str rfl) pa_nil))))) (pw_or1 (pt_not (pt_val (pcl c_is_expression (hr.mono (by omega)) (pa_cons (pe_ix ix_tup (pv 0) pe_int (fun _ _ => rfl)) (pa_cons (pe_op op_sub (pv 1) pe_int) pa_nil))))))))) (pss_one (ps_ret pe_bl)) pss_nil)
      (pss_cons (ps_if (pt_cmpR op_eq (pe_ix ix_tup (pv 0) pe_int (fun _ _ => rfl)) pe_str (nomark _)) (pss_one (ps_ret (pcl c_is_whole (hr.mono (by omega)) (pa_cons (pe_ix ix_tup (pv 0) pe_int (fun _ _ => rfl)) (pa_cons (pe_op op_sub pe_int (pe_glob (v := .int 9) rfl hc_MOST_FACTOR ⟨_, rfl⟩)) (pa_cons (pe_glob (v := .int 9) rfl hc_MOST_FACTOR ⟨_, rfl⟩) pa_nil)))))) pss_nil)
      (pss_one (ps_ret (pe_and (pe_cmpR op_in_seq (pe_ix ix_tup (pv 0) pe_int (fun _ _ => rfl)) (pe_tup (pa_cons pe_str (pa_cons pe_str pa_nil))) (by rfl)) (pe_one (pcl c_is_expression (hr.mono (by omega)) (pa_cons (pe_ix ix_tup (pv 0) pe_int (fun _ _ => rfl)) (pa_cons (pe_op op_sub (pv 1) pe_int) pa_nil))))))))))), ?_⟩
  obtain ⟨v, e, rfl, hd, ho, k⟩ := h
  walk_at "st"
  have e0 : decide (V.int ((n + 1 : Nat) : Int) = V.int 0) = false := decide_eq_false (fun z => by have := V.int.inj z; omega)
  rw [e0]
  refine i_itf rfl ?_
  walk_at "st"
  cases e with
  | num i =>
    obtain rfl := dp_int hd
    have ib : -99 ≤ i ∧ i ≤ 99 := by simpa [Ex.ok] using ho
    refine r_n (.base (.int _)) ?_
    walk_at "st"
    refine i_ite rfl ?_
    walk_at "st"
    refine ⟨_, rfl, .inr ⟨i, rfl, fun H1 s1 => ?_⟩⟩
    walk_at "st"
    refine i_itf rfl ?_
    walk_at "st"
    exact ⟨i, _, _, rfl, by omega, ib.2, k _ s1⟩
  | nam x =>
    obtain rfl := dp_str hd
    refine r_n (.base (.str _)) ?_
    walk_at "st"
    refine i_ite rfl ?_
    walk_at "st"
    refine ⟨_, rfl, .inl ⟨x, rfl, by simpa [Ex.ok] using ho, fun H1 s1 => ?_⟩⟩
    walk_at "st"
    refine i_ite rfl ?_
    exact k _ s1
  | bin o a b =>
    obtain ⟨p, u1, u2, u3, rfl, hs, h1, h2, h3⟩ := dp_t3 hd
    obtain rfl := dp_str h1
    have hb : b.ok n = true := by
      cases o <;> cases a <;> simp [Ex.ok] at ho <;> first | exact ho.2 | skip
    refine r_y (ty_tup hs) ?_
    walk_at "st"
    refine i_itf rfl ?_
    walk_at "st"
    refine i_lenT hs ?_
    walk_at "st"
    refine i_itf rfl ?_
    walk_at "st"
    refine i_ix0 hs ?_
    walk_at "st"
    refine r_y (.base (.str _)) ?_
    walk_at "st"
    refine i_itf rfl ?_
    walk_at "st"
    refine i_ix2 hs ?_
    walk_at "st"
    rw [dec1]
    refine ⟨_, b, rfl, h3, hb, fun H1 s1 => ?_⟩
    walk_at "st"
    refine i_itf rfl ?_
    walk_at "st"
    refine i_ix0 (Same.tup s1 hs) ?_
    walk_at "st"
    rw [opw_eq]
    cases o with
    | times =>
      refine i_ite rfl ?_
      walk_at "st"
      refine i_ix1 (Same.tup s1 hs) ?_
      walk_at "st"
      cases a with
      | num f =>
        obtain rfl := dp_int h2
        have fb : -9 ≤ f ∧ f ≤ 9 := by simp [Ex.ok] at ho; omega
        exact ⟨f, _, _, rfl, by omega, fb.2, k _ s1⟩
      | _ => simp [Ex.ok] at ho
    | plus =>
      refine i_itf rfl ?_
      walk_at "st"
      refine i_ix0 (Same.tup s1 hs) ?_
      walk_at "st"
      refine i_new (by simp) fun p1 hp1 => ?_
      refine i_inT (.inl (.inl upd_same)) rfl rfl ?_
      walk_at "st"
      rw [opw_in]
      refine i_ite rfl ?_
      walk_at "st"
      have s2 := Same.grow (o := .tup [.str "plus", .str "minus"]) s1 hp1
      refine i_ix1 (Same.tup s2 hs) ?_
      walk_at "st"
      have ha : a.ok n = true := by cases a <;> simp [Ex.ok] at ho <;> exact ho.1
      rw [dec1]
      exact ⟨_, a, rfl, dp_mono s2 h2, ha, fun H3 s3 => k _ (Same.trans s2 s3)⟩
    | minus =>
      refine i_itf rfl ?_
      walk_at "st"
      refine i_ix0 (Same.tup s1 hs) ?_
      walk_at "st"
      refine i_new (by simp) fun p1 hp1 => ?_
      refine i_inT (.inl (.inl upd_same)) rfl rfl ?_
      walk_at "st"
      rw [opw_in]
      refine i_ite rfl ?_
      walk_at "st"
      have s2 := Same.grow (o := .tup [.str "plus", .str "minus"]) s1 hp1
      refine i_ix1 (Same.tup s2 hs) ?_
      walk_at "st"
      have ha : a.ok n = true := by cases a <;> simp [Ex.ok] at ho <;> exact ho.1
      rw [dec1]
      exact ⟨_, a, rfl, dp_mono s2 h2, ha, fun H3 s3 => k _ (Same.trans s2 s3)⟩
end
end K04
/-! text A2 -/
set_option Elab.async false
set_option linter.all false
set_option maxRecDepth 100000
set_option maxHeartbeats 4000000
namespace K04
open PySem PySem.Spec PyProof.Rows L2 TL
local macro_rules
  | `(tactic| walk_at "st") => `(tactic| repeat (with_reducible first
    | refine i_seq ?_ | refine i_ret ?_ | refine i_asg ?_ | refine i_name ?_ | refine i_ifs ?_ | refine i_test ?_ | refine i_B ?_ | refine i_bl ?_ | refine i_var (by with_unfolding_all rfl) ?_ | refine i_c ?_
    | refine i_op ?_ | refine i_un ?_ | refine i_cb ?_ | refine i_cons ?_ | refine i_nil ?_ | refine i_call ?_ | refine i_and ?_ | refine i_or ?_ | refine i_not ?_ | refine i_andV ?_ | refine i_orV ?_ | refine i_notV ?_ | refine i_if ?_
    | refine i_tup ?_ | refine i_lst ?_ | refine i_sl ?_ | refine i_nopart ?_ | refine i_part ?_ | refine i_int ?_ | refine i_chain ?_ | refine i_I0 ?_ | refine i_par ?_ | refine i_two ?_ | refine i_bm ?_ | refine i_bm0 ?_ | refine i_m1 ?_ | refine i_tyS ?_ | refine i_str ?_
    | refine i_for ?_ | refine i_iTup ?_ | refine i_iList ?_ | refine i_iStr ?_ | refine i_iRng1 ?_ | refine i_iRng2 ?_ | refine i_iEnum ?_ | refine i_lc ?_ | refine i_yes ?_ | refine i_revL ?_ | refine i_fld ?_ | refine i_sfld ?_ | refine i_meth ?_ | refine i_make ?_ | refine i_isN ?_ | refine i_notN ?_ | refine i_intB ?_ | refine i_intI ?_
    | refine i_next ?_ | refine i_drop ?_ | refine i_retN ?_ | refine i_gsub ?_ | refine i_ipI ?_ | refine i_aug (by with_unfolding_all rfl) ?_
    | refine i_eq (by with_unfolding_all rfl) ?_ | refine i_ne (by with_unfolding_all rfl) ?_))
abbrev N_is_rest : List Str := ["value"]
theorem sc_is_rest : FnScope N_is_rest ["value"] (defScope s_is_rest) := ⟨rfl, rfl, rfl, by decide +kernel, rfl, by decide +kernel, by decide +kernel⟩
abbrev N_is_test : List Str := ["value", "nots"]
theorem sc_is_test : FnScope N_is_test ["value", "nots"] (defScope s_is_test) := ⟨rfl, rfl, rfl, by decide +kernel, rfl, by decide +kernel, by decide +kernel⟩
abbrev N_are_blocks : List Str := ["values", "value"]
theorem sc_are_blocks : FnScope N_are_blocks ["values"] (defScope s_are_blocks) := ⟨rfl, rfl, rfl, by decide +kernel, rfl, by decide +kernel, by decide +kernel⟩
abbrev N_is_statement : List Str := ["value"]
theorem sc_is_statement : FnScope N_is_statement ["value"] (defScope s_is_statement) := ⟨rfl, rfl, rfl, by decide +kernel, rfl, by decide +kernel, by decide +kernel⟩
section
variable {P : Program} {w : World} {K : PySem.W.Frag} {mg : Str → Option Value} {base : Heap}
def sp_is_rest : Sp := fun vs H Q _ => ∃ (v : V) (e : Ex) (q r : Int), vs = [v] ∧ Dp K H v (Te.rest e q r).py ∧ Te.ok 0 (.rest e q r) = true ∧ ∀ H', Same H H' → Q (.bl true) H'
theorem ok_is_rest (T : Txt w K mg) : Cl P w K mg base CX0 5 "is_rest" ["value"] (sp_is_rest (K := K)) := by
  have c_is_expression := ok_is_ex (P := P) (base := base) T 3
  have c_is_whole := ok_is_whole (P := P) (base := base) T
  obtain ⟨fd, F⟩ := T.d_is_rest
  obtain ⟨_, hc_MAX_BY⟩ := T.c_MAX_BY
  obtain ⟨_, hc_MAX_DEEP⟩ := T.c_MAX_DEEP
  refine ⟨_, fd, T.g_is_rest, F.kp, (FunD.bindsN F (fun _ _ _ _ _ _ us hl => match us, hl with | [_], _ => rfl)), F.ok sc_is_rest (fun vs H Q E h => ?len) (fun cdv A outer s H vs Q E hr h => ?run)⟩
  case len =>
    obtain ⟨v, e, q, r, rfl, _⟩ := h
    rfl
  refine ⟨_, PSs.nox (pss_cons (ps_if (PW.pt (pw_or (pt_cmpR op_ne (pe_callB call_lenX (by rfl) T.f_len (by decide +kernel) (pa_cons (pv 0) pa_nil)) pe_int (nomark _)) (pw_or (pt_not (pt_val (pcl c_is_expression (hr.mono (by omega)) (pa_cons (pe_ix ix_tup (pv 0) pe_int (fun _ _ => rfl)) (pa_cons (pe_glob (v := .int 3) rfl hc_MAX_DEEP ⟨_, rfl⟩) pa_nil))))) (pw_or1 (pt_not (pt_val (pcl c_is_whole (hr.mono (by omega)) (pa_cons (pe_ix ix_tup (pv 0) pe_int (fun _ _ => rfl)) (pa_cons pe_int (pa_cons (pe_glob (v := .int 6) rfl hc_MAX_BY ⟨_, rfl⟩) pa_nil)))))))))) (pss_one (ps_ret pe_bl)) pss_nil)
      (pss_one (ps_ret (pcl c_is_whole (hr.mono (by omega)) (pa_cons (pe_ix ix_tup (pv 0) pe_int (fun _ _ => rfl)) (pa_cons pe_int (pa_cons (pe_op op_sub (pe_ix ix_tup (pv 0) pe_int (fun _ _ => rfl)) pe_int) pa_nil))))))), ?_⟩
  obtain ⟨v, e, q, r, rfl, hd, ho, k⟩ := h
  obtain ⟨p, u1, u2, u3, u4, rfl, hs, h1, h2, h3, h4⟩ := dp_t4 hd
  obtain rfl := dp_int h3
  obtain rfl := dp_int h4
  simp only [Te.ok, Bool.and_eq_true, decide_eq_true_eq] at ho
  walk_at "st"
  refine i_lenT hs ?_
  walk_at "st"
  refine i_itf rfl ?_
  walk_at "st"
  refine i_ix1 hs ?_
  walk_at "st"
  refine ⟨_, e, rfl, h2, ho.1.1, fun H1 s1 => ?_⟩
  walk_at "st"
  refine i_itf rfl ?_
  walk_at "st"
  refine i_ix2 (Same.tup s1 hs) ?_
  walk_at "st"
  refine ⟨q, _, _, rfl, ho.1.2.1, ho.1.2.2, ?_⟩
  walk_at "st"
  refine i_itf rfl ?_
  walk_at "st"
  refine i_ix3 (Same.tup s1 hs) ?_
  walk_at "st"
  refine i_ix2 (Same.tup s1 hs) ?_
  walk_at "st"
  exact ⟨r, _, _, rfl, ho.2.1, ho.2.2, k _ s1⟩
def sp_is_te (n : Nat) : Sp := fun vs H Q _ => ∃ (v : V) (t : Te), vs = [v, .int (n : Int)] ∧ Dp K H v t.py ∧ t.ok n = true ∧ ∀ H', Same H H' → Q (.bl true) H'
theorem ok_is_te (T : Txt w K mg) : ∀ n : Nat, Cl P w K mg base CX0 (n + 6) "is_test" ["value", "nots"] (sp_is_te (K := K) n) := by
  have c_is_expression := ok_is_ex (P := P) (base := base) T 3
  have c_is_rest := ok_is_rest (P := P) (base := base) T
  have main : ∀ n : Nat, (∀ m, n = m + 1 → Cl P w K mg base CX0 (m + 6) "is_test" ["value", "nots"] (sp_is_te (K := K) m)) → Cl P w K mg base CX0 (n + 6) "is_test" ["value", "nots"] (sp_is_te (K := K) n) := by
    intro n ih
    have c_is_test : Cl P w K mg base CX0 (n + 5) "is_test" ["value", "nots"] (fun vs H Q E => ∃ m, n = m + 1 ∧ sp_is_te (K := K) m vs H Q E) := by
      cases n with
      | zero =>
        obtain ⟨fd, F⟩ := T.d_is_test
        exact ⟨_, fd, T.g_is_test, F.kp, (FunD.bindsN F (fun _ _ _ _ _ _ us hl => match us, hl with | [_, _], _ => rfl)), F.ok sc_is_test (fun vs H Q E h => (show False by obtain ⟨m, e, _⟩ := h; omega).elim) (fun cdv A outer s H vs Q E hr h => (show False by obtain ⟨m, e, _⟩ := h; omega).elim)⟩
      | succ m => exact (ih m rfl).imp fun vs H Q E h => by obtain ⟨m', e, h⟩ := h; obtain rfl : m = m' := (by omega); exact h
    obtain ⟨fd, F⟩ := T.d_is_test
    obtain ⟨_, hc_MAX_DEEP⟩ := T.c_MAX_DEEP
    refine ⟨_, fd, T.g_is_test, F.kp, (FunD.bindsN F (fun _ _ _ _ _ _ us hl => match us, hl with | [_, _], _ => rfl)), F.ok sc_is_test (fun vs H Q E h => ?len) (fun cdv A outer s H vs Q E hr h => ?run)⟩
    case len =>
      obtain ⟨v, t, rfl, _⟩ := h
      rfl
    refine ⟨_, PSs.nox (pss_cons (ps_if (PW.pt (pw_or (pt_not (pt_val (pe_callB call_isi (by rfl) T.f_isinstance (by decide +kernel) (pa_cons (pv 0) (pa_cons (pe_bltn (v := .ty "tuple") rfl T.f_tuple boot_tuple rfl) pa_nil))))) (pw_or (pt_cmpR op_eq (pe_callB call_lenX (by rfl) T.f_len (by decide +kernel) (pa_cons (pv 0) pa_nil)) pe_int (nomark _)) (pw_or1 (pt_not (pt_val (pe_callB call_isi (by rfl) T.f_isinstance (by decide +kernel) (pa_cons (pe_ix ix_tup (pv 0) pe_int (fun _ _ => rfl)) (pa_cons (pe_bltn (v := .ty "str") rfl T.f_str boot_str rfl) pa_nil))))))))) (pss_one (ps_ret pe_bl)) pss_nil)
        (pss_cons (ps_if (pt_cmpR op_eq (pe_ix ix_tup (pv 0) pe_int (fun _ _ => rfl)) pe_str (nomark _)) (pss_one (ps_ret (pe_and (pe_cmpR op_eq (pe_callB call_lenX (by rfl) T.f_len (by decide +kernel) (pa_cons (pv 0) pa_nil)) pe_int (nomark _)) (pe_and (pcl c_is_expression (hr.mono (by omega)) (pa_cons (pe_ix ix_tup (pv 0) pe_int (fun _ _ => rfl)) (pa_cons (pe_glob (v := .int 3) rfl hc_MAX_DEEP ⟨_, rfl⟩) pa_nil))) (pe_one (pcl c_is_expression (hr.mono (by omega)) (pa_cons (pe_ix ix_tup (pv 0) pe_int (fun _ _ => rfl)) (pa_cons (pe_glob (v := .int 3) rfl hc_MAX_DEEP ⟨_, rfl⟩) pa_nil)))))))) pss_nil)
        (pss_cons (ps_if (pt_cmpR op_eq (pe_ix ix_tup (pv 0) pe_int (fun _ _ => rfl)) pe_str (nomark _)) (pss_one (ps_ret (pcl c_is_rest (hr.mono (by omega)) (pa_cons (pv 0) pa_nil)))) pss_nil)
        (pss_one (ps_ret (pe_and (pe_cmpR op_eq (pe_ix ix_tup (pv 0) pe_int (fun _ _ => rfl)) pe_str (nomark _)) (pe_and (pe_cmpR op_eq (pe_callB call_lenX (by rfl) T.f_len (by decide +kernel) (pa_cons (pv 0) pa_nil)) pe_int (nomark _)) (pe_and (pe_cmpR op_gt (pv 1) pe_int (nomark _)) (pe_one (pcl c_is_test (hr.mono (by omega)) (pa_cons (pe_ix ix_tup (pv 0) pe_int (fun _ _ => rfl)) (pa_cons (pe_op op_sub (pv 1) pe_int) pa_nil)))))))))))), ?_⟩
    obtain ⟨v, t, rfl, hd, ho, k⟩ := h
    walk_at "st"
    cases t with
    | less a b =>
      obtain ⟨p, u1, u2, u3, rfl, hs, h1, h2, h3⟩ := dp_t3 hd
      obtain rfl := dp_str h1
      simp only [Te.ok, Bool.and_eq_true] at ho
      refine r_y (ty_tup hs) ?_
      walk_at "st"
      refine i_itf rfl ?_
      walk_at "st"
      refine i_lenT hs ?_
      walk_at "st"
      refine i_itf rfl ?_
      walk_at "st"
      refine i_ix0 hs ?_
      walk_at "st"
      refine r_y (.base (.str _)) ?_
      walk_at "st"
      refine i_itf rfl ?_
      walk_at "st"
      refine i_ix0 hs ?_
      walk_at "st"
      refine i_ite rfl ?_
      walk_at "st"
      refine i_lenT hs ?_
      walk_at "st"
      refine i_ite rfl ?_
      walk_at "st"
      refine i_ix1 hs ?_
      walk_at "st"
      refine ⟨_, a, rfl, h2, ho.1, fun H1 s1 => ?_⟩
      walk_at "st"
      refine i_ite rfl ?_
      walk_at "st"
      refine i_ix2 (Same.tup s1 hs) ?_
      walk_at "st"
      exact ⟨_, b, rfl, dp_mono s1 h3, ho.2, fun H2 s2 => k _ (Same.trans s1 s2)⟩
    | rest e q r =>
      obtain ⟨p, u1, u2, u3, u4, rfl, hs, h1, h2, h3, h4⟩ := dp_t4 hd
      obtain rfl := dp_str h1
      refine r_y (ty_tup hs) ?_
      walk_at "st"
      refine i_itf rfl ?_
      walk_at "st"
      refine i_lenT hs ?_
      walk_at "st"
      refine i_itf rfl ?_
      walk_at "st"
      refine i_ix0 hs ?_
      walk_at "st"
      refine r_y (.base (.str _)) ?_
      walk_at "st"
      refine i_itf rfl ?_
      walk_at "st"
      refine i_ix0 hs ?_
      walk_at "st"
      refine i_itf rfl ?_
      walk_at "st"
      refine i_ix0 hs ?_
      walk_at "st"
      refine i_ite rfl ?_
      walk_at "st"
      refine ⟨_, e, q, r, rfl, hd, ?_, k⟩
      simpa [Te.ok] using ho
    | no t =>
      obtain ⟨p, u1, u2, rfl, hs, h1, h2⟩ := dp_t2 hd
      obtain rfl := dp_str h1
      refine r_y (ty_tup hs) ?_
      walk_at "st"
      refine i_itf rfl ?_
      walk_at "st"
      refine i_lenT hs ?_
      walk_at "st"
      refine i_itf rfl ?_
      walk_at "st"
      refine i_ix0 hs ?_
      walk_at "st"
      refine r_y (.base (.str _)) ?_
      walk_at "st"
      refine i_itf rfl ?_
      walk_at "st"
      refine i_ix0 hs ?_
      walk_at "st"
      refine i_itf rfl ?_
      walk_at "st"
      refine i_ix0 hs ?_
      walk_at "st"
      refine i_itf rfl ?_
      walk_at "st"
      refine i_ix0 hs ?_
      walk_at "st"
      refine i_ite rfl ?_
      walk_at "st"
      refine i_lenT hs ?_
      walk_at "st"
      refine i_ite rfl ?_
      walk_at "st"
      cases n with
      | zero => simp [Te.ok] at ho
      | succ m =>
        refine i_ite (decide_eq_true (by omega)) ?_
        walk_at "st"
        refine i_ix1 hs ?_
        walk_at "st"
        rw [dec1]
        exact ⟨m, rfl, _, t, rfl, h2, by simpa [Te.ok] using ho, k⟩
  intro n
  induction n with
  | zero => exact main 0 (fun m e => by omega)
  | succ n ih => exact main (n + 1) (fun m e => by obtain rfl : n = m := (by omega); exact ih)
def sp_are_blocks : Sp := fun vs H Q _ => ∃ (a : Addr) (xs : List V), vs = [.ref a] ∧ SqT K H a xs ∧ xs.length ≤ 1000 ∧ (∀ x ∈ xs, ∃ p ys, x = .ref p ∧ SqT K H p ys) ∧ ∀ H', Same H H' → Q (.bl true) H'
theorem ok_are_blocks (T : Txt w K mg) : Cl P w K mg base CX0 1 "are_blocks" ["values"] (sp_are_blocks (K := K)) := by
  obtain ⟨fd, F⟩ := T.d_are_blocks
  refine ⟨_, fd, T.g_are_blocks, F.kp, (FunD.bindsN F (fun _ _ _ _ _ _ us hl => match us, hl with | [_], _ => rfl)), F.ok sc_are_blocks (fun vs H Q E h => ?len) (fun cdv A outer s H vs Q E hr h => ?run)⟩
  case len =>
    obtain ⟨a, xs, rfl, _⟩ := h
    rfl
  refine ⟨_, PSs.nox (pss_one (ps_ret (pe_cmpR (op_eqN hr.units0) (pe_lc (own := [("value", 1)]) rfl sc_are_blocks.nd (pi_tup (pv 0)) (blkOk_by (own := [("value", 1)]) (N := N_are_blocks) (sc := (defScope s_are_blocks)) (by decide +kernel)) (fun _ _ _ _ _ => pg_name (i := 1) sc_are_blocks.nd rfl (Or.inl rfl)) (fun _ _ _ _ _ => (pts_one (pt_not (pt_val (pe_callB (show CallR _ (.builtin "isinstance") (rIsi K) from call_isi) (by rfl) T.f_isinstance (by decide +kernel) (pa_cons (pv 1) (pa_cons (pe_bltn (v := .ty "tuple") rfl T.f_tuple boot_tuple rfl) pa_nil))))))) (fun _ _ _ _ _ => (pv 1))) (pe_lst pa_nil) (nomark _)))), ?_⟩
  obtain ⟨a, xs, rfl, hs, hl, hx, k⟩ := h
  walk_at "st"
  refine ⟨a, rfl, ⟨xs, hs⟩, fun D hD => ?_⟩
  refine lc_it (walk_tup (xs := xs)) (fun j G => Same H G ∧ G D = some (.lst [])) ⟨Same.new hD, upd_same⟩ (fun i G hi h => Same.tup h.1 hs) ?_ ?_
  · rintro j x G G' hj ⟨s, g⟩ ⟨rfl, hc⟩
    obtain ⟨p, ys, rfl, hp⟩ := hx x (List.mem_of_getElem? hc)
    walk_at "st"
    refine ⟨rfl, ?_⟩
    walk_at "st"
    refine r_y (ty_tup (Same.tup s hp)) ?_
    walk_at "st"
    exact i_itf rfl ⟨s, g⟩
  · rintro G ⟨s, g⟩
    walk_at "st"
    refine i_new (by simp) fun p hp => ?_
    refine i_eqNL (.inl (.inl ((Same.new hp) _ _ g))) (.inl (.inl upd_same)) ?_
    exact k _ (Same.grow s hp)
/-! is_statement -/
def sp_is_st : Sp := fun vs H Q _ => ∃ (v : V) (s : Sm), vs = [v] ∧ Dp K H v s.py ∧ s.ok = true ∧ ∀ H', Same H H' → Q (.bl true) H'
theorem dp_tupv {H : Hp} {v : V} {ds : List PyData} (h : Dp K H v (.tuple ds)) : ∃ p ys, v = .ref p ∧ SqT K H p ys := by
  obtain ⟨a, xs, rfl, hs, _⟩ := dp_tup h
  exact ⟨a, xs, rfl, hs⟩
theorem ok_is_st (T : Txt w K mg) : Cl P w K mg base CX0 10 "is_statement" ["value"] (sp_is_st (K := K)) := by
  have c_is_expression := ok_is_ex (P := P) (base := base) T 3
  have c_is_test := ok_is_te (P := P) (base := base) T 2
  have c_are_blocks := ok_are_blocks (P := P) (base := base) T
  have c_is_whole := ok_is_whole (P := P) (base := base) T
  have c_is_name_programs := ok_is_name_p (P := P) (base := base) T
  obtain ⟨fd, F⟩ := T.d_is_statement
  obtain ⟨_, hc_MAX_DEEP⟩ := T.c_MAX_DEEP
  obtain ⟨_, hc_MAX_NOTS⟩ := T.c_MAX_NOTS
  obtain ⟨_, hc_MAX_TIMES⟩ := T.c_MAX_TIMES
  refine ⟨_, fd, T.g_is_statement, F.kp, (FunD.bindsN F (fun _ _ _ _ _ _ us hl => match us, hl with | [_], _ => rfl)), F.ok sc_is_statement (fun vs H Q E h => ?len) (fun cdv A outer s H vs Q E hr h => ?run)⟩
  case len =>
    obtain ⟨v, s, rfl, _⟩ := h
    rfl
  refine ⟨_, PSs.nox (pss_cons (ps_if (PW.pt (pw_or (pt_not (pt_val (pe_callB call_isi (by rfl) T.f_isinstance (by decide +kernel) (pa_cons (pv 0) (pa_cons (pe_bltn (v := .ty "tuple") rfl T.f_tuple boot_tuple rfl) pa_nil))))) (pw_or (pt_cmpR op_eq (pe_callB call_lenX (by rfl) T.f_len (by decide +kernel) (pa_cons (pv 0) pa_nil)) pe_int (nomark _)) (pw_or1 (pt_not (pt_val (pe_callB call_isi (by rfl) T.f_isinstance (by decide +kernel) (pa_cons (pe_ix ix_tup (pv 0) pe_int (fun _ _ => rfl)) (pa_cons (pe_bltn (v := .ty "str") rfl T.f_str boot_str rfl) pa_nil))))))))) (pss_one (ps_ret pe_bl)) pss_nil)
      (pss_cons (ps_if (pt_cmpR op_eq (pe_ix ix_tup (pv 0) pe_int (fun _ _ => rfl)) pe_str (nomark _)) (pss_one (ps_ret (pe_and (pe_cmpR op_eq (pe_callB call_lenX (by rfl) T.f_len (by decide +kernel) (pa_cons (pv 0) pa_nil)) pe_int (nomark _)) (pe_and (pcl c_is_name_programs (hr.mono (by omega)) (pa_cons (pe_ix ix_tup (pv 0) pe_int (fun _ _ => rfl)) pa_nil)) (pe_one (pcl c_is_expression (hr.mono (by omega)) (pa_cons (pe_ix ix_tup (pv 0) pe_int (fun _ _ => rfl)) (pa_cons (pe_glob (v := .int 3) rfl hc_MAX_DEEP ⟨_, rfl⟩) pa_nil)))))))) pss_nil)
      (pss_cons (ps_if (pt_cmpR op_eq (pe_ix ix_tup (pv 0) pe_int (fun _ _ => rfl)) pe_str (nomark _)) (pss_one (ps_ret (pe_and (pe_cmpR op_eq (pe_callB call_lenX (by rfl) T.f_len (by decide +kernel) (pa_cons (pv 0) pa_nil)) pe_int (nomark _)) (pe_one (pcl c_is_expression (hr.mono (by omega)) (pa_cons (pe_ix ix_tup (pv 0) pe_int (fun _ _ => rfl)) (pa_cons (pe_glob (v := .int 3) rfl hc_MAX_DEEP ⟨_, rfl⟩) pa_nil))))))) pss_nil)
      (pss_cons (ps_if (pt_cmpR op_eq (pe_ix ix_tup (pv 0) pe_int (fun _ _ => rfl)) pe_str (nomark _)) (pss_one (ps_ret (pe_and (pe_cmpR op_eq (pe_callB call_lenX (by rfl) T.f_len (by decide +kernel) (pa_cons (pv 0) pa_nil)) pe_int (nomark _)) (pe_and (pcl c_is_test (hr.mono (by omega)) (pa_cons (pe_ix ix_tup (pv 0) pe_int (fun _ _ => rfl)) (pa_cons (pe_glob (v := .int 2) rfl hc_MAX_NOTS ⟨_, rfl⟩) pa_nil))) (pe_one (pcl c_are_blocks (hr.mono (by omega)) (pa_cons (pe_slice sl_tupA (pv 0) (po_some pe_int) po_none) pa_nil))))))) pss_nil)
      (pss_cons (ps_if (pt_cmpR op_in_seq (pe_ix ix_tup (pv 0) pe_int (fun _ _ => rfl)) (pe_glob (v := .ref _) rfl T.g_CHOICES rfl) (by rfl)) (pss_one (ps_ret (pe_and (pe_cmpR op_eq (pe_callB call_lenX (by rfl) T.f_len (by decide +kernel) (pa_cons (pv 0) pa_nil)) pe_int (nomark _)) (pe_one (pcl c_are_blocks (hr.mono (by omega)) (pa_cons (pe_slice sl_tupA (pv 0) (po_some pe_int) po_none) pa_nil)))))) pss_nil)
      (pss_cons (ps_if (pt_cmpR op_eq (pe_ix ix_tup (pv 0) pe_int (fun _ _ => rfl)) pe_str (nomark _)) (pss_one (ps_ret (pe_and (pe_cmpR op_eq (pe_callB call_lenX (by rfl) T.f_len (by decide +kernel) (pa_cons (pv 0) pa_nil)) pe_int (nomark _)) (pe_and (pcl c_is_whole (hr.mono (by omega)) (pa_cons (pe_ix ix_tup (pv 0) pe_int (fun _ _ => rfl)) (pa_cons pe_int (pa_cons (pe_glob (v := .int 8) rfl hc_MAX_TIMES ⟨_, rfl⟩) pa_nil)))) (pe_one (pcl c_are_blocks (hr.mono (by omega)) (pa_cons (pe_slice sl_tupA (pv 0) (po_some pe_int) po_none) pa_nil))))))) pss_nil)
      (pss_one (ps_ret (pe_cmpR (op_eqD hr.units) (pv 0) (pe_tup (pa_cons pe_str pa_nil)) (nomark _)))))))))), ?_⟩
  obtain ⟨v, s', rfl, hd, ho, k⟩ := h
  walk_at "st"
  cases s' with
  | set x e =>
    obtain ⟨p, u1, u2, u3, rfl, hs, h1, h2, h3⟩ := dp_t3 hd
    obtain rfl := dp_str h1
    obtain rfl := dp_str h2
    simp only [Sm.ok, Bool.and_eq_true] at ho
    refine r_y (ty_tup hs) ?_
    walk_at "st"
    refine i_itf rfl ?_
    walk_at "st"
    refine i_lenT hs ?_
    walk_at "st"
    refine i_itf rfl ?_
    walk_at "st"
    refine i_ix0 hs ?_
    walk_at "st"
    refine r_y (.base (.str _)) ?_
    walk_at "st"
    refine i_itf rfl ?_
    walk_at "st"
    refine i_ix0 hs ?_
    walk_at "st"
    refine i_ite rfl ?_
    walk_at "st"
    refine i_lenT hs ?_
    walk_at "st"
    refine i_ite rfl ?_
    walk_at "st"
    refine i_ix1 hs ?_
    walk_at "st"
    refine ⟨_, rfl, .inl ⟨x, rfl, ho.1, fun H1 s1 => ?_⟩⟩
    walk_at "st"
    refine i_ite rfl ?_
    walk_at "st"
    refine i_ix2 (Same.tup s1 hs) ?_
    walk_at "st"
    exact ⟨_, e, rfl, dp_mono s1 h3, ho.2, fun H2 s2 => k _ (Same.trans s1 s2)⟩
  | pay e =>
    obtain ⟨p, u1, u2, rfl, hs, h1, h2⟩ := dp_t2 hd
    obtain rfl := dp_str h1
    refine r_y (ty_tup hs) ?_
    walk_at "st"
    refine i_itf rfl ?_
    walk_at "st"
    refine i_lenT hs ?_
    walk_at "st"
    refine i_itf rfl ?_
    walk_at "st"
    refine i_ix0 hs ?_
    walk_at "st"
    refine r_y (.base (.str _)) ?_
    walk_at "st"
    refine i_itf rfl ?_
    walk_at "st"
    refine i_ix0 hs ?_
    walk_at "st"
    refine i_itf rfl ?_
    walk_at "st"
    refine i_ix0 hs ?_
    walk_at "st"
    refine i_ite rfl ?_
    walk_at "st"
    refine i_lenT hs ?_
    walk_at "st"
    refine i_ite rfl ?_
    walk_at "st"
    refine i_ix1 hs ?_
    walk_at "st"
    exact ⟨_, e, rfl, h2, ho, k⟩
  | stop =>
    obtain ⟨p, u1, rfl, hs, h1⟩ := dp_t1 hd
    obtain rfl := dp_str h1
    refine r_y (ty_tup hs) ?_
    walk_at "st"
    refine i_itf rfl ?_
    walk_at "st"
    refine i_lenT hs ?_
    walk_at "st"
    refine i_itf rfl ?_
    walk_at "st"
    refine i_ix0 hs ?_
    walk_at "st"
    refine r_y (.base (.str _)) ?_
    walk_at "st"
    refine i_itf rfl ?_
    walk_at "st"
    refine i_ix0 hs ?_
    walk_at "st"
    refine i_itf rfl ?_
    walk_at "st"
    refine i_ix0 hs ?_
    walk_at "st"
    refine i_itf rfl ?_
    walk_at "st"
    refine i_ix0 hs ?_
    walk_at "st"
    refine i_itf rfl ?_
    walk_at "st"
    refine i_ix0 hs ?_
    walk_at "st"
    refine i_inT (T.t_CHOICES _) rfl rfl ?_
    walk_at "st"
    rw [show inV (.str "stop") [.str "we", .str "they"] = false by decide +kernel]
    refine i_itf rfl ?_
    walk_at "st"
    refine i_ix0 hs ?_
    walk_at "st"
    refine i_itf rfl ?_
    walk_at "st"
    refine i_new (by simp) fun p1 hp1 => ?_
    refine ⟨_, _, dp_mono (Same.new hp1) hd, .tup (.inl (.inl upd_same)) (.cons (.str _) .nil), ?_, ?_, ?_⟩
    · decide +kernel
    · decide +kernel
    · rw [show PyData.eqv (Sm.stop.py) (.tuple [.str "stop"]) = true by decide +kernel]
      exact k _ (Same.new hp1)
  | ift t y n =>
    obtain ⟨p, u1, u2, u3, u4, rfl, hs, h1, h2, h3, h4⟩ := dp_t4 hd
    obtain rfl := dp_str h1
    refine r_y (ty_tup hs) ?_
    walk_at "st"
    refine i_itf rfl ?_
    walk_at "st"
    refine i_lenT hs ?_
    walk_at "st"
    refine i_itf rfl ?_
    walk_at "st"
    refine i_ix0 hs ?_
    walk_at "st"
    refine r_y (.base (.str _)) ?_
    walk_at "st"
    refine i_itf rfl ?_
    walk_at "st"
    refine i_ix0 hs ?_
    walk_at "st"
    refine i_itf rfl ?_
    walk_at "st"
    refine i_ix0 hs ?_
    walk_at "st"
    refine i_itf rfl ?_
    walk_at "st"
    refine i_ix0 hs ?_
    walk_at "st"
    refine i_ite rfl ?_
    walk_at "st"
    refine i_lenT hs ?_
    walk_at "st"
    refine i_ite rfl ?_
    walk_at "st"
    refine i_ix1 hs ?_
    walk_at "st"
    refine ⟨_, t, rfl, h2, ho, fun H1 s1 => ?_⟩
    walk_at "st"
    refine i_ite rfl ?_
    walk_at "st"
    refine i_slA (Same.tup s1 hs) (fun z => absurd z.1 (by decide : ¬ HT.sIx 4 0 (some 2) = 0)) fun p1 hp1 => ?_
    walk_at "st"
    have s2 := Same.grow (o := .tup (cutV [.str "if", u2, u3, u4] (some 2) none)) s1 hp1
    refine ⟨p1, _, rfl, .inl (.inl upd_same), (by show List.length _ ≤ 1000; simp [cutV]; omega), ?_, fun H2 s3 => k _ (Same.trans s2 s3)⟩
    intro z hz
    have hz : z ∈ [u3, u4] := hz
    rw [List.mem_cons, List.mem_singleton] at hz
    rcases hz with rfl | rfl
    · exact dp_tupv (dp_mono s2 h3)
    · exact dp_tupv (dp_mono s2 h4)
  | cho hh a b =>
    obtain ⟨p, u1, u2, u3, rfl, hs, h1, h2, h3⟩ := dp_t3 hd
    obtain rfl := dp_str h1
    refine r_y (ty_tup hs) ?_
    walk_at "st"
    refine i_itf rfl ?_
    walk_at "st"
    refine i_lenT hs ?_
    walk_at "st"
    refine i_itf rfl ?_
    walk_at "st"
    refine i_ix0 hs ?_
    walk_at "st"
    refine r_y (.base (.str _)) ?_
    walk_at "st"
    refine i_itf rfl ?_
    walk_at "st"
    refine i_ix0 hs ?_
    walk_at "st"
    rw [show decide (V.str (hand hh) = .str "set") = false by cases hh <;> decide +kernel]
    refine i_itf rfl ?_
    walk_at "st"
    refine i_ix0 hs ?_
    walk_at "st"
    rw [show decide (V.str (hand hh) = .str "pay") = false by cases hh <;> decide +kernel]
    refine i_itf rfl ?_
    walk_at "st"
    refine i_ix0 hs ?_
    walk_at "st"
    rw [show decide (V.str (hand hh) = .str "if") = false by cases hh <;> decide +kernel]
    refine i_itf rfl ?_
    walk_at "st"
    refine i_ix0 hs ?_
    walk_at "st"
    refine i_inT (T.t_CHOICES _) rfl rfl ?_
    walk_at "st"
    rw [show inV (.str (hand hh)) [.str "we", .str "they"] = true by cases hh <;> decide +kernel]
    refine i_ite rfl ?_
    walk_at "st"
    refine i_lenT hs ?_
    walk_at "st"
    refine i_ite rfl ?_
    walk_at "st"
    refine i_slA hs (fun z => absurd z.1 (by decide : ¬ HT.sIx 3 0 (some 1) = 0)) fun p1 hp1 => ?_
    walk_at "st"
    have s2 := Same.new (o := .tup (cutV [.str (hand hh), u2, u3] (some 1) none)) hp1
    refine ⟨p1, _, rfl, .inl (.inl upd_same), (by show List.length _ ≤ 1000; simp [cutV]; omega), ?_, fun H2 s3 => k _ (Same.trans s2 s3)⟩
    intro z hz
    have hz : z ∈ [u2, u3] := hz
    rw [List.mem_cons, List.mem_singleton] at hz
    rcases hz with rfl | rfl
    · exact dp_tupv (dp_mono s2 h2)
    · exact dp_tupv (dp_mono s2 h3)
  | rep m b =>
    obtain ⟨p, u1, u2, u3, rfl, hs, h1, h2, h3⟩ := dp_t3 hd
    obtain rfl := dp_str h1
    obtain rfl := dp_int h2
    have hm : 1 ≤ m ∧ m ≤ 8 := of_decide_eq_true ho
    refine r_y (ty_tup hs) ?_
    walk_at "st"
    refine i_itf rfl ?_
    walk_at "st"
    refine i_lenT hs ?_
    walk_at "st"
    refine i_itf rfl ?_
    walk_at "st"
    refine i_ix0 hs ?_
    walk_at "st"
    refine r_y (.base (.str _)) ?_
    walk_at "st"
    refine i_itf rfl ?_
    walk_at "st"
    refine i_ix0 hs ?_
    walk_at "st"
    refine i_itf rfl ?_
    walk_at "st"
    refine i_ix0 hs ?_
    walk_at "st"
    refine i_itf rfl ?_
    walk_at "st"
    refine i_ix0 hs ?_
    walk_at "st"
    refine i_itf rfl ?_
    walk_at "st"
    refine i_ix0 hs ?_
    walk_at "st"
    refine i_inT (T.t_CHOICES _) rfl rfl ?_
    walk_at "st"
    rw [show inV (.str "repeat") [.str "we", .str "they"] = false by decide +kernel]
    refine i_itf rfl ?_
    walk_at "st"
    refine i_ix0 hs ?_
    walk_at "st"
    refine i_ite rfl ?_
    walk_at "st"
    refine i_lenT hs ?_
    walk_at "st"
    refine i_ite rfl ?_
    walk_at "st"
    refine i_ix1 hs ?_
    walk_at "st"
    refine ⟨m, _, _, rfl, hm.1, hm.2, ?_⟩
    walk_at "st"
    refine i_ite rfl ?_
    walk_at "st"
    refine i_slA hs (fun z => absurd z.1 (by decide : ¬ HT.sIx 3 0 (some 2) = 0)) fun p1 hp1 => ?_
    walk_at "st"
    have s2 := Same.new (o := .tup (cutV [.str "repeat", .int m, u3] (some 2) none)) hp1
    refine ⟨p1, _, rfl, .inl (.inl upd_same), (by show List.length _ ≤ 1000; simp [cutV]; omega), ?_, fun H2 s3 => k _ (Same.trans s2 s3)⟩
    intro z hz
    have hz : z ∈ [u3] := hz
    rw [List.mem_singleton] at hz
    subst hz
    exact dp_tupv (dp_mono s2 h3)
  | half h a => cases ho
end
end K04
/-! text R2 -/
set_option Elab.async false
set_option linter.all false
set_option maxRecDepth 100000
set_option maxHeartbeats 4000000
/-! Pairs made by a comprehension; the blocks of a statement -/
namespace K04
open PySem PySem.Spec PyProof.Rows L2 TL
section
variable {K : PySem.W.Frag}
theorem dp_of1 {H : Hp} {p : Addr} {x : V} {d : PyData} (h : H p = some (.tup [x])) (a : Dp K H x d) : Dp K H (.ref p) (.tuple [d]) := .tup (.inl (.inl h)) (.cons a .nil)
theorem dp_of2 {H : Hp} {p : Addr} {x y : V} {d e : PyData} (h : H p = some (.tup [x, y])) (a : Dp K H x d) (b : Dp K H y e) : Dp K H (.ref p) (.tuple [d, e]) := .tup (.inl (.inl h)) (.cons a (.cons b .nil))
theorem dp_of3 {H : Hp} {p : Addr} {x y z : V} {d e f : PyData} (h : H p = some (.tup [x, y, z])) (a : Dp K H x d) (b : Dp K H y e) (c : Dp K H z f) : Dp K H (.ref p) (.tuple [d, e, f]) := .tup (.inl (.inl h)) (.cons a (.cons b (.cons c .nil)))
theorem dp_of4 {H : Hp} {p : Addr} {x y z t : V} {d e f g : PyData} (h : H p = some (.tup [x, y, z, t])) (a : Dp K H x d) (b : Dp K H y e) (c : Dp K H z f) (i : Dp K H t g) : Dp K H (.ref p) (.tuple [d, e, f, g]) := .tup (.inl (.inl h)) (.cons a (.cons b (.cons c (.cons i .nil))))
theorem dpa_rev {H : Hp} : ∀ {vs : List V} {ds : List PyData}, DpAll K H vs ds → DpAll K H vs.reverse ds.reverse
  | _, _, .nil => .nil
  | _, _, .cons a r => by
    rw [List.reverse_cons, List.reverse_cons]
    exact dpa_app (dpa_rev r) (.cons a .nil)
theorem noLs_map {α : Type} {f : α → PyData} (h : ∀ a, noL (f a) = true) : ∀ l : List α, noLs (l.map f) = true
  | [] => rfl
  | a :: r => by
    show (noL (f a) && noLs (r.map f)) = true
    rw [h a, noLs_map h r]; rfl
theorem noLs_take : ∀ {ds : List PyData} (j : Nat), noLs ds = true → noLs (ds.take j) = true
  | [], j, _ => by cases j <;> rfl
  | d :: r, 0, _ => rfl
  | d :: r, j + 1, h => by
    have h2 : (noL d && noLs r) = true := h
    rw [Bool.and_eq_true] at h2
    show (noL d && noLs (r.take j)) = true
    rw [h2.1, noLs_take j h2.2]; rfl
theorem noLs_pairs {d : Int} : ∀ {ds : List PyData}, noLs ds = true → noLs (ds.map fun e => .tuple [.int d, e]) = true
  | [], _ => rfl
  | e :: r, h => by
    have h2 : (noL e && noLs r) = true := h
    rw [Bool.and_eq_true] at h2
    show ((true && (noL e && true)) && noLs (r.map _)) = true
    rw [h2.1, noLs_pairs h2.2]; rfl
theorem dpa_at : ∀ {H : Hp} {vs : List V} {ds : List PyData} {j : Nat} {u : V}, DpAll K H vs ds → vs[j]? = some u → ∃ d, ds[j]? = some d ∧ Dp K H u d := fun h e => dpa_get h e
theorem noLs_get : ∀ {ds : List PyData} {j : Nat} {e : PyData}, noLs ds = true → ds[j]? = some e → noL e = true
  | [], _, _, _, z => by cases z
  | d :: r, 0, e, h, z => by
    have h2 : (noL d && noLs r) = true := h
    rw [Bool.and_eq_true] at h2
    cases z
    exact h2.1
  | d :: r, j + 1, e, h, z => by
    have h2 : (noL d && noLs r) = true := h
    rw [Bool.and_eq_true] at h2
    exact noLs_get (j := j) h2.2 z
theorem take_next {α : Type} {l : List α} {j : Nat} {x : α} (h : l[j]? = some x) : l.take (j + 1) = l.take j ++ [x] := by rw [List.take_succ, h]; rfl
theorem lc_pairs {σ : L2.St} {H : Hp} {Qd : Hp → Prop} {xs : List V} {ds : List PyData} {a : Addr} {d : Int} {i : Nat} {tD : TE} (hs : SqT K H a xs) (hd : DpAll K H xs ds) (hn : noLs ds = true) (hl : xs.length ≤ 1000)
    (hi : ∀ v, wipe ((wipe σ [i]).set i (some v)) [i] = wipe σ [i]) (hv : ∀ v, ((wipe σ [i]).set i (some v))[i]? = some (some v)) (hT : ∀ v H1 (Q1 : VK), Q1 (.int d) H1 → tD ((wipe σ [i]).set i (some v)) H1 Q1)
    {D0 : Addr} (hD : H D0 = none) (k : ∀ H' ys, Same H H' → H' D0 = some (.lst ys) → DpAll K H' ys (ds.map fun e => .tuple [.int d, e]) → Qd H') :
    ∃ W : Nat → Nat → Hp → Prop, (∃ m, W 0 m (upd H D0 (.lst []))) ∧ ∀ j m H, W j m H →
      ((Itt K a).stop j H ∧ Qd H) ∨ ((Itt K a).go j H ∧ ∃ Nx : Hp → Prop, (∀ H', Nx H' → ∃ m', m' < m ∧ W (j + 1) m' H') ∧ ∀ x H', (Itt K a).yld j H x H' → gName i x (wipe σ [i]) H' fun σ2 H2 => wipe σ2 [i] = wipe σ [i] ∧ tYes σ2 H2 fun b H3 =>
        if b = true then tTup (tCons tD (tCons (tVar i) tNil)) σ2 H3 fun y H4 => ∃ acc, H4 D0 = some (.lst acc) ∧ acc.length < sizeLine ∧ Nx (upd H4 D0 (.lst (acc ++ [y]))) else Nx H3) := by
  refine lc_it (walk_tup (xs := xs)) (fun j G => Same H G ∧ ∃ ys, G D0 = some (.lst ys) ∧ ys.length = j ∧ DpAll K G ys ((ds.take j).map fun e => .tuple [.int d, e])) ⟨Same.new hD, [], upd_same, rfl, .nil⟩ (fun i G hi h => Same.tup h.1 hs) ?_ ?_
  · rintro j x G G' hj ⟨s, ys, g, hy, q⟩ ⟨rfl, hc⟩
    obtain ⟨e, he, de⟩ := dpa_get hd hc
    refine ⟨hi _, ?_⟩
    refine i_yes ?_
    refine i_ite rfl ?_
    refine hT _ _ _ ?_
    refine ⟨_, hv _, by rw [sizeLine_eq]; simp, fun p hp => ?_⟩
    have pD : D0 ≠ p := ne_of_none g hp
    refine ⟨ys, by rw [upd_ne pD]; exact g, szl (by omega), ?_, ys ++ [.ref p], upd_same, by simp [hy], ?_⟩
    · exact Same.mut (Same.grow s hp) hD
    · have s1 : TK G' (upd (upd G' p (.tup [.int d, x])) D0 (.lst (ys ++ [.ref p]))) := TK.trans (TK.new hp) (TK.lst (by rw [upd_ne pD]; exact g))
      rw [take_next he, List.map_append]
      refine dpa_app (dpa_tk s1 (noLs_pairs (noLs_take j hn)) q) (.cons (dp_of2 (x := .int d) (y := x) (by rw [upd_ne pD.symm, upd_same]) (.int d) ?_) .nil)
      · have ne : noL e = true := noLs_get hn he
        exact dp_tk s1 ne (dp_mono s de)
  · rintro G ⟨s, ys, g, hy, q⟩
    rw [List.take_of_length_le (by rw [← dpa_len hd]; exact Nat.le_refl _)] at q
    exact k G ys s g q
end
/-! ### a statement's blocks -/
def Sm.blks : Sm → List (List Sm)
  | .ift _ y n => [y, n]
  | .cho _ a b => [a, b]
  | .rep _ b => [b]
  | _ => []
abbrev bpy (b : List Sm) : PyData := .tuple (Sm.pys b)
abbrev itm (x : Nat × Sm) : PyData := .tuple [.int (x.1 : Int), x.2.py]
theorem pl_pos : ∀ s : Sm, 1 ≤ s.pl := fun s => by cases s <;> simp only [Sm.pl] <;> omega
theorem pls_app : ∀ a b : List Sm, Sm.pls (a ++ b) = Sm.pls a + Sm.pls b
  | [], b => by simp [Sm.pls]
  | s :: r, b => by
    show s.pl + Sm.pls (r ++ b) = (s.pl + Sm.pls r) + Sm.pls b
    rw [pls_app r b]; omega
theorem len_pls : ∀ l : List Sm, l.length ≤ Sm.pls l
  | [] => Nat.le_refl _
  | s :: r => by
    have := len_pls r
    have := pl_pos s
    show r.length + 1 ≤ s.pl + Sm.pls r
    omega
theorem pl_blks (s : Sm) (h : s.ok = true) : s.pl = 1 + Sm.pls s.blks.flatten := by
  cases s <;> simp only [Sm.pl, Sm.blks, List.flatten_cons, List.flatten_nil, List.append_nil, pls_app, Sm.pls] <;> first | omega | cases h
end K04
/-! text A3 -/
set_option Elab.async false
set_option linter.all false
set_option maxRecDepth 100000
set_option maxHeartbeats 4000000
namespace K04
open PySem PySem.Spec PyProof.Rows L2 TL
local macro_rules
  | `(tactic| walk_at "st") => `(tactic| repeat (with_reducible first
    | refine i_seq ?_ | refine i_ret ?_ | refine i_asg ?_ | refine i_name ?_ | refine i_ifs ?_ | refine i_test ?_ | refine i_B ?_ | refine i_bl ?_ | refine i_var (by with_unfolding_all rfl) ?_ | refine i_c ?_
    | refine i_op ?_ | refine i_un ?_ | refine i_cb ?_ | refine i_cons ?_ | refine i_nil ?_ | refine i_call ?_ | refine i_and ?_ | refine i_or ?_ | refine i_not ?_ | refine i_andV ?_ | refine i_orV ?_ | refine i_notV ?_ | refine i_if ?_
    | refine i_tup ?_ | refine i_lst ?_ | refine i_sl ?_ | refine i_nopart ?_ | refine i_part ?_ | refine i_int ?_ | refine i_chain ?_ | refine i_I0 ?_ | refine i_par ?_ | refine i_two ?_ | refine i_bm ?_ | refine i_bm0 ?_ | refine i_m1 ?_ | refine i_tyS ?_ | refine i_str ?_
    | refine i_for ?_ | refine i_iTup ?_ | refine i_iList ?_ | refine i_iStr ?_ | refine i_iRng1 ?_ | refine i_iRng2 ?_ | refine i_iEnum ?_ | refine i_lc ?_ | refine i_yes ?_ | refine i_revL ?_ | refine i_fld ?_ | refine i_sfld ?_ | refine i_meth ?_ | refine i_make ?_ | refine i_isN ?_ | refine i_notN ?_ | refine i_intB ?_ | refine i_intI ?_
    | refine i_next ?_ | refine i_drop ?_ | refine i_retN ?_ | refine i_gsub ?_ | refine i_ipI ?_ | refine i_aug (by with_unfolding_all rfl) ?_
    | refine i_eq (by with_unfolding_all rfl) ?_ | refine i_ne (by with_unfolding_all rfl) ?_))
abbrev N_blocks_of : List Str := ["statement"]
theorem sc_blocks_of : FnScope N_blocks_of ["statement"] (defScope s_blocks_of) := ⟨rfl, rfl, rfl, by decide +kernel, rfl, by decide +kernel, by decide +kernel⟩
abbrev N_items_within : List Str := ["statement", "depth", "found", "block", "item"]
theorem sc_items_within : FnScope N_items_within ["statement", "depth"] (defScope s_items_within) := ⟨rfl, rfl, rfl, by decide +kernel, rfl, by decide +kernel, by decide +kernel⟩
section
variable {P : Program} {w : World} {K : PySem.W.Frag} {mg : Str → Option Value} {base : Heap}
/-- a new list of these -/
def Gives (K : PySem.W.Frag) (H : Hp) (Q : VK) (ds : List PyData) : Prop := ∀ (H' : Hp) (l : Addr) (xs : List V), Same H H' → H' l = some (.lst xs) → H l = none → DpAll K H' xs ds → Q (.ref l) H'
def sp_blocks : Sp := fun vs H Q _ => ∃ (v : V) (s : Sm), vs = [v] ∧ Dp K H v s.py ∧ s.ok = true ∧ Gives K H Q (s.blks.map bpy)
theorem ok_blocks_of (T : Txt w K mg) : Cl P w K mg base CX0 1 "blocks_of" ["statement"] (sp_blocks (K := K)) := by
  obtain ⟨fd, F⟩ := T.d_blocks_of
  refine ⟨_, fd, T.g_blocks_of, F.kp, (FunD.bindsN F (fun _ _ _ _ _ _ us hl => match us, hl with | [_], _ => rfl)), F.ok sc_blocks_of (fun vs H Q E h => ?len) (fun cdv A outer s H vs Q E hr h => ?run)⟩
  case len =>
    obtain ⟨v, s, rfl, _⟩ := h
    rfl
  refine ⟨_, PSs.nox (pss_cons (ps_if (pt_cmpR op_in_seq (pe_ix ix_tup (pv 0) pe_int (fun _ _ => rfl)) (pe_glob (v := .ref _) rfl T.g_CHOICES rfl) (by rfl)) (pss_one (ps_ret (pe_lst (pa_cons (pe_ix ix_tup (pv 0) pe_int (fun _ _ => rfl)) (pa_cons (pe_ix ix_tup (pv 0) pe_int (fun _ _ => rfl)) pa_nil))))) pss_nil)
      (pss_cons (ps_if (pt_cmpR op_eq (pe_ix ix_tup (pv 0) pe_int (fun _ _ => rfl)) pe_str (nomark _)) (pss_one (ps_ret (pe_lst (pa_cons (pe_ix ix_tup (pv 0) pe_int (fun _ _ => rfl)) (pa_cons (pe_ix ix_tup (pv 0) pe_int (fun _ _ => rfl)) pa_nil))))) pss_nil)
      (pss_one (ps_ret (pe_ifExp (pt_cmpR op_eq (pe_ix ix_tup (pv 0) pe_int (fun _ _ => rfl)) pe_str (nomark _)) (pe_lst (pa_cons (pe_ix ix_tup (pv 0) pe_int (fun _ _ => rfl)) pa_nil)) (pe_lst pa_nil)))))), ?_⟩
  obtain ⟨v, s', rfl, hd, ho, k⟩ := h
  walk_at "st"
  cases s' with
  | set x e =>
    obtain ⟨p, u1, u2, u3, rfl, hs, h1, h2, h3⟩ := dp_t3 hd
    obtain rfl := dp_str h1
    refine i_ix0 hs ?_
    walk_at "st"
    refine i_inT (T.t_CHOICES _) rfl rfl ?_
    walk_at "st"
    rw [show inV (.str "set") [.str "we", .str "they"] = false by decide +kernel]
    refine i_itf rfl ?_
    walk_at "st"
    refine i_ix0 hs ?_
    walk_at "st"
    refine i_itf rfl ?_
    walk_at "st"
    refine i_ix0 hs ?_
    walk_at "st"
    refine i_itf rfl ?_
    walk_at "st"
    exact i_new (by simp) fun p1 hp1 => k _ _ _ (Same.new hp1) upd_same hp1 .nil
  | pay e =>
    obtain ⟨p, u1, u2, rfl, hs, h1, h2⟩ := dp_t2 hd
    obtain rfl := dp_str h1
    refine i_ix0 hs ?_
    walk_at "st"
    refine i_inT (T.t_CHOICES _) rfl rfl ?_
    walk_at "st"
    rw [show inV (.str "pay") [.str "we", .str "they"] = false by decide +kernel]
    refine i_itf rfl ?_
    walk_at "st"
    refine i_ix0 hs ?_
    walk_at "st"
    refine i_itf rfl ?_
    walk_at "st"
    refine i_ix0 hs ?_
    walk_at "st"
    refine i_itf rfl ?_
    walk_at "st"
    exact i_new (by simp) fun p1 hp1 => k _ _ _ (Same.new hp1) upd_same hp1 .nil
  | stop =>
    obtain ⟨p, u1, rfl, hs, h1⟩ := dp_t1 hd
    obtain rfl := dp_str h1
    refine i_ix0 hs ?_
    walk_at "st"
    refine i_inT (T.t_CHOICES _) rfl rfl ?_
    walk_at "st"
    rw [show inV (.str "stop") [.str "we", .str "they"] = false by decide +kernel]
    refine i_itf rfl ?_
    walk_at "st"
    refine i_ix0 hs ?_
    walk_at "st"
    refine i_itf rfl ?_
    walk_at "st"
    refine i_ix0 hs ?_
    walk_at "st"
    refine i_itf rfl ?_
    walk_at "st"
    exact i_new (by simp) fun p1 hp1 => k _ _ _ (Same.new hp1) upd_same hp1 .nil
  | ift t y n =>
    obtain ⟨p, u1, u2, u3, u4, rfl, hs, h1, h2, h3, h4⟩ := dp_t4 hd
    obtain rfl := dp_str h1
    refine i_ix0 hs ?_
    walk_at "st"
    refine i_inT (T.t_CHOICES _) rfl rfl ?_
    walk_at "st"
    rw [show inV (.str "if") [.str "we", .str "they"] = false by decide +kernel]
    refine i_itf rfl ?_
    walk_at "st"
    refine i_ix0 hs ?_
    walk_at "st"
    refine i_ite rfl ?_
    walk_at "st"
    refine i_ix2 hs ?_
    walk_at "st"
    refine i_ix3 hs ?_
    walk_at "st"
    exact i_new (by simp) fun p1 hp1 => k _ _ _ (Same.new hp1) upd_same hp1 (.cons (dp_mono (Same.new hp1) h3) (.cons (dp_mono (Same.new hp1) h4) .nil))
  | cho hh a b =>
    obtain ⟨p, u1, u2, u3, rfl, hs, h1, h2, h3⟩ := dp_t3 hd
    obtain rfl := dp_str h1
    refine i_ix0 hs ?_
    walk_at "st"
    refine i_inT (T.t_CHOICES _) rfl rfl ?_
    walk_at "st"
    rw [show inV (.str (hand hh)) [.str "we", .str "they"] = true by cases hh <;> decide +kernel]
    refine i_ite rfl ?_
    walk_at "st"
    refine i_ix1 hs ?_
    walk_at "st"
    refine i_ix2 hs ?_
    walk_at "st"
    exact i_new (by simp) fun p1 hp1 => k _ _ _ (Same.new hp1) upd_same hp1 (.cons (dp_mono (Same.new hp1) h2) (.cons (dp_mono (Same.new hp1) h3) .nil))
  | rep m b =>
    obtain ⟨p, u1, u2, u3, rfl, hs, h1, h2, h3⟩ := dp_t3 hd
    obtain rfl := dp_str h1
    refine i_ix0 hs ?_
    walk_at "st"
    refine i_inT (T.t_CHOICES _) rfl rfl ?_
    walk_at "st"
    rw [show inV (.str "repeat") [.str "we", .str "they"] = false by decide +kernel]
    refine i_itf rfl ?_
    walk_at "st"
    refine i_ix0 hs ?_
    walk_at "st"
    refine i_itf rfl ?_
    walk_at "st"
    refine i_ix0 hs ?_
    walk_at "st"
    refine i_ite rfl ?_
    walk_at "st"
    refine i_ix2 hs ?_
    walk_at "st"
    exact i_new (by simp) fun p1 hp1 => k _ _ _ (Same.new hp1) upd_same hp1 (.cons (dp_mono (Same.new hp1) h3) .nil)
  | half h a => cases ho
/-! items_within -/
def sp_items : Sp := fun vs H Q _ => ∃ (v : V) (s : Sm) (d : Nat), vs = [v, .int (d : Int)] ∧ Dp K H v s.py ∧ s.ok = true ∧ s.pl ≤ 1000 ∧ Gives K H Q ((s.blks.flatten.map fun c => (d + 1, c)).reverse.map itm)
theorem itm_map (d : Nat) (b : List Sm) : (Sm.pys b).map (fun e => PyData.tuple [.int ((d : Int) + 1), e]) = (b.map fun c => (d + 1, c)).map itm := by
  rw [pys_eq, List.map_map, List.map_map]; rfl
theorem noL_itm (l : List (Nat × Sm)) : noLs (l.map itm) = true := noLs_map (fun a => by simp [itm, noL, noLs, noL_sm]) l
theorem dpa_get2 {H : Hp} : ∀ {vs : List V} {ds : List PyData} {j : Nat} {d : PyData}, DpAll K H vs ds → ds[j]? = some d → ∃ u, vs[j]? = some u ∧ Dp K H u d
  | _, _, _, _, .nil, z => by cases z
  | _, _, 0, _, .cons a r, z => by cases z; exact ⟨_, rfl, a⟩
  | _, _, j + 1, _, .cons a r, z => dpa_get2 (j := j) r z
theorem ok_items_within (T : Txt w K mg) : Cl P w K mg base CX0 2 "items_within" ["statement", "depth"] (sp_items (K := K)) := by
  have c_blocks_of := ok_blocks_of (P := P) (base := base) T
  obtain ⟨fd, F⟩ := T.d_items_within
  refine ⟨_, fd, T.g_items_within, F.kp, (FunD.bindsN F (fun _ _ _ _ _ _ us hl => match us, hl with | [_, _], _ => rfl)), F.ok sc_items_within (fun vs H Q E h => ?len) (fun cdv A outer s H vs Q E hr h => ?run)⟩
  case len =>
    obtain ⟨v, s, d, rfl, _⟩ := h
    rfl
  refine ⟨_, PSs.nox (pss_cons (ps_set (i := 2) sc_items_within.nd rfl (by first | exact Or.inl rfl | exact Or.inr rfl) (pe_lst pa_nil))
      (pss_cons (ps_for PassesOwn.never rfl (pi_list (pcl c_blocks_of (hr.mono (by omega)) (pa_cons (pv 0) pa_nil))) (pg_name (i := 3) sc_items_within.nd rfl (by first | exact Or.inl rfl | exact Or.inr rfl)) (pss_one (ps_expr (pe_bm PySem.F.plainAttrs_list PySem.F.slot_list_extend PySem.F.type_list_extend mt_extend (pv 2) (pa_cons (pe_lc (own := [("item", 4)]) rfl sc_items_within.nd (pi_tup (pv 3)) (blkOk_by (own := [("item", 4)]) (N := N_items_within) (sc := (defScope s_items_within)) (by decide +kernel)) (fun _ _ _ _ _ => pg_name (i := 4) sc_items_within.nd rfl (Or.inl rfl)) (fun _ _ _ _ _ => pts_nil) (fun _ _ _ _ _ => (pe_tup (pa_cons (pe_op op_add (pv 1) pe_int) (pa_cons (pv 4) pa_nil))))) pa_nil)))))
      (pss_one (ps_ret (pe_revL (pv 2)))))), ?_⟩
  obtain ⟨v, s', d, rfl, hd, ho, hpl, k⟩ := h
  have hflat : s'.blks.flatten.length ≤ 1000 := by have := len_pls s'.blks.flatten; have := pl_blks s' ho; omega
  walk_at "st"
  refine i_new (by simp) fun F hF => ?_
  walk_at "st"
  refine ⟨v, s', rfl, dp_mono (Same.new hF) hd, ho, fun H1 B bs s1 hB hB0 hbs => ?_⟩
  have hbs2 : ∀ j x, bs[j]? = some x → ∃ b, s'.blks[j]? = some b ∧ Dp K H1 x (bpy b) := fun j x hx => by
    obtain ⟨e, he, de⟩ := dpa_get hbs hx
    rw [List.getElem?_map] at he
    cases hb : s'.blks[j]? with
    | none => rw [hb] at he; cases he
    | some b => rw [hb] at he; cases he; exact ⟨b, hb, de⟩
  refine ⟨B, rfl, ⟨bs, .inl (.inl hB)⟩, ?_⟩
  have FB : B ≠ F := fun z => by rw [z, upd_same] at hB0; cases hB0
  refine for_it (walk_list (xs := bs)) (fun j τ G => (∃ x, τ = [some v, some (.int (d : Int)), some (.ref F), x, none]) ∧ Same H G ∧ G B = some (.lst bs) ∧ (∀ b o, H1 b = some o → b ≠ F → G b = some o) ∧ ∃ ys, G F = some (.lst ys) ∧ DpAll K G ys (((s'.blks.take j).flatten.map fun c => (d + 1, c)).map itm)) ?_ ?_ ?_ ?_
  · exact ⟨⟨_, rfl⟩, Same.trans (Same.new hF) s1, hB, fun b o h _ => h, [], s1 _ _ upd_same, .nil⟩
  · rintro j τ G hj ⟨_, s2, g, _, _⟩
    exact .inl (.inl g)
  · rintro j x τ G G' hj ⟨⟨x0, rfl⟩, s2, g, kp, ys, hF2, hys⟩ ⟨rfl, hx⟩
    obtain ⟨b, hb, db⟩ := hbs2 j x hx
    obtain ⟨q, us, rfl, hq, hus⟩ := dp_tup db
    have tkq : TK H1 G' := fun a xs r => by
      have : a ≠ F := fun z => by
        subst z
        rcases r with r | ⟨_, r⟩ <;> rw [s1 _ _ upd_same] at r <;> cases r
      rcases r with r | ⟨ob, r⟩
      · exact .inl (kp _ _ r this)
      · exact .inr ⟨ob, kp _ _ r this⟩
    have hq' : SqT K G' q us := hq.imp (fun z => tkq _ _ z) id
    have hus' : DpAll K G' us (Sm.pys b) := dpa_tk tkq (noL_sms b) hus
    have hlen : ((s'.blks.take j).flatten).length + b.length ≤ 1000 := by
      have e : s'.blks.flatten = (s'.blks.take j).flatten ++ (b ++ (s'.blks.drop (j + 1)).flatten) := by
        conv => lhs; rw [← List.take_append_drop j s'.blks]
        rw [List.flatten_append, List.drop_eq_getElem_cons (by rcases List.getElem?_eq_some_iff.mp hb with ⟨z, _⟩; exact z), List.flatten_cons]
        have : s'.blks[j]'(by rcases List.getElem?_eq_some_iff.mp hb with ⟨z, _⟩; exact z) = b := by rcases List.getElem?_eq_some_iff.mp hb with ⟨z, y⟩; exact y
        rw [this]
      have := congrArg List.length e
      simp only [List.length_append] at this
      omega
    have hyl : ys.length = ((s'.blks.take j).flatten).length := by rw [dpa_len hys, List.length_map, List.length_map]
    have hul : us.length = b.length := by rw [dpa_len hus, pys_eq]; simp
    walk_at "st"
    refine i_tyL (.inl (.inl hF2)) ?_
    walk_at "st"
    refine ⟨q, rfl, ⟨us, hq'⟩, fun D hD => ?_⟩
    refine lc_pairs (d := (d : Int) + 1) hq' hus' (noL_sms b) (by omega) ?_ ?_ ?_ hD (fun G2 zs s3 hz dz => ?_)
    · exact fun _ => rfl
    · exact fun _ => rfl
    · intro z H3 Q1 q1
      walk_at "st"
      exact q1
    walk_at "st"
    have hzl : zs.length = b.length := by rw [dpa_len dz, pys_eq]; simp
    refine i_extend (s3 _ _ hF2) hz (by omega) ?_
    walk_at "st"
    have hF0 : H F = none := hF
    refine ⟨⟨_, rfl⟩, Same.mut (Same.trans s2 s3) hF0, ?_, ?_, ys ++ zs, upd_same, ?_⟩
    · rw [upd_ne FB]; exact s3 _ _ g
    · intro b' o hb' ne
      rw [upd_ne ne]
      exact s3 _ _ (kp _ _ hb' ne)
    · have tk2 : TK G2 (upd G2 F (.lst (ys ++ zs))) := TK.lst (s3 _ _ hF2)
      rw [take_next hb, List.flatten_append, List.map_append, List.map_append]
      refine dpa_app (dpa_tk (TK.trans (TK.of s3) tk2) (noL_itm _) hys) ?_
      rw [List.flatten_cons, List.flatten_nil, List.append_nil, ← itm_map]
      rw [itm_map] at dz ⊢
      exact dpa_tk tk2 (noL_itm _) dz
  · rintro τ G ⟨⟨x0, rfl⟩, s2, g, kp, ys, hF2, hys⟩
    walk_at "st"
    refine ⟨F, ys, rfl, .inl (.inl hF2), fun p hp => ?_⟩
    have hl : bs.length = s'.blks.length := by rw [dpa_len hbs]; simp
    rw [hl, List.take_length] at hys
    have e := dpa_rev (dpa_mono (Same.new (o := .lst ys.reverse) hp) hys)
    rw [← List.map_reverse] at e
    exact k _ _ _ (Same.grow s2 hp) upd_same (s2.free hp) e
end
end K04
/-! text A4 -/
set_option Elab.async false
set_option linter.all false
set_option maxRecDepth 100000
set_option maxHeartbeats 4000000
namespace K04
open PySem PySem.Spec PyProof.Rows L2 TL
local macro_rules
  | `(tactic| walk_at "st") => `(tactic| repeat (with_reducible first
    | refine i_seq ?_ | refine i_ret ?_ | refine i_asg ?_ | refine i_name ?_ | refine i_ifs ?_ | refine i_test ?_ | refine i_B ?_ | refine i_bl ?_ | refine i_var (by with_unfolding_all rfl) ?_ | refine i_c ?_
    | refine i_op ?_ | refine i_un ?_ | refine i_cb ?_ | refine i_cons ?_ | refine i_nil ?_ | refine i_call ?_ | refine i_and ?_ | refine i_or ?_ | refine i_not ?_ | refine i_andV ?_ | refine i_orV ?_ | refine i_notV ?_ | refine i_if ?_
    | refine i_tup ?_ | refine i_lst ?_ | refine i_sl ?_ | refine i_nopart ?_ | refine i_part ?_ | refine i_int ?_ | refine i_chain ?_ | refine i_I0 ?_ | refine i_par ?_ | refine i_two ?_ | refine i_bm ?_ | refine i_bm0 ?_ | refine i_m1 ?_ | refine i_tyS ?_ | refine i_str ?_
    | refine i_for ?_ | refine i_iTup ?_ | refine i_iList ?_ | refine i_iStr ?_ | refine i_iRng1 ?_ | refine i_iRng2 ?_ | refine i_iEnum ?_ | refine i_lc ?_ | refine i_yes ?_ | refine i_revL ?_ | refine i_fld ?_ | refine i_sfld ?_ | refine i_meth ?_ | refine i_make ?_ | refine i_isN ?_ | refine i_notN ?_ | refine i_intB ?_ | refine i_intI ?_
    | refine i_next ?_ | refine i_drop ?_ | refine i_retN ?_ | refine i_gsub ?_ | refine i_ipI ?_ | refine i_aug (by with_unfolding_all rfl) ?_
    | refine i_eq (by with_unfolding_all rfl) ?_ | refine i_ne (by with_unfolding_all rfl) ?_))
abbrev N_rows_of : List Str := ["program", "left", "found", "item", "depth", "statement"]
theorem sc_rows_of : FnScope N_rows_of ["program"] (defScope s_rows_of) := ⟨rfl, rfl, rfl, by decide +kernel, rfl, by decide +kernel, by decide +kernel⟩

section
variable {P : Program} {w : World} {K : PySem.W.Frag} {mg : Str → Option Value} {base : Heap}
theorem dpa_snoc {H : Hp} : ∀ {ds : List PyData} {d : PyData} {xs : List V}, DpAll K H xs (ds ++ [d]) → ∃ ys u, xs = ys ++ [u] ∧ DpAll K H ys ds ∧ Dp K H u d
  | [], d, xs, h => by
    obtain ⟨u, us, rfl, h1, h2⟩ := dpa_cons h
    obtain rfl := dpa_nil h2
    exact ⟨[], u, rfl, .nil, h1⟩
  | e :: r, d, xs, h => by
    obtain ⟨u, us, rfl, h1, h2⟩ := dpa_cons h
    obtain ⟨ys, z, rfl, h3, h4⟩ := dpa_snoc h2
    exact ⟨u :: ys, z, rfl, .cons h1 h3, h4⟩
/-- a stack of statements with their depths, the top first -/
def stPl (st : List (Nat × Sm)) : Nat := Sm.pls (st.map (·.2))
def stOk (st : List (Nat × Sm)) : Prop := ∀ c ∈ st, c.2.good c.1 = true
def kids (c : Nat × Sm) : List (Nat × Sm) := c.2.blks.flatten.map fun x => (c.1 + 1, x)
theorem stPl_cons (c : Nat × Sm) (st : List (Nat × Sm)) : stPl (c :: st) = c.2.pl + stPl st := rfl
theorem stPl_app (a b : List (Nat × Sm)) : stPl (a ++ b) = stPl a + stPl b := by unfold stPl; rw [List.map_append, pls_app]
theorem stPl_kids (c : Nat × Sm) : stPl (kids c) = Sm.pls c.2.blks.flatten := by
  unfold stPl kids; rw [List.map_map, show ((fun x : Nat × Sm => x.2) ∘ fun x => (c.1 + 1, x)) = id from rfl, List.map_id]
theorem goods_mem : ∀ {d : Nat} {l : List Sm}, Sm.goods d l = true → ∀ s ∈ l, s.good d = true
  | _, [], _, s, h => by cases h
  | d, a :: r, g, s, h => by
    have g2 : (a.good d && Sm.goods d r) = true := g
    rw [Bool.and_eq_true] at g2
    rcases List.mem_cons.mp h with rfl | h
    · exact g2.1
    · exact goods_mem g2.2 s h
theorem good_kids {c : Nat × Sm} (h : c.2.good c.1 = true) : stOk (kids c) := by
  obtain ⟨d, s⟩ := c
  intro x hx
  obtain ⟨y, hy, rfl⟩ := List.mem_map.mp hx
  cases s <;> simp only [Sm.good, Bool.and_eq_true, decide_eq_true_eq] at h <;> simp only [Sm.blks, List.flatten_cons, List.flatten_nil, List.append_nil, List.mem_append, List.not_mem_nil] at hy
  · rcases hy with hy | hy
    · exact goods_mem h.1.2 y hy
    · exact goods_mem h.2 y hy
  · rcases hy with hy | hy
    · exact goods_mem h.1.2 y hy
    · exact goods_mem h.2 y hy
  · exact goods_mem h.2 y hy
theorem good_deep {d : Nat} {s : Sm} (h : s.good d = true) : d ≤ 3 := by
  cases s <;> simp only [Sm.good, Bool.and_eq_true, decide_eq_true_eq] at h
  · exact h.1.1
  · exact h.1
  · exact h
  · exact h.1.1.1
  · exact h.1.1
  · exact h.1.1
  · cases h
theorem st_next {c : Nat × Sm} {st : List (Nat × Sm)} (h : stOk (c :: st)) : stOk (kids c ++ st) ∧ stPl (kids c ++ st) + 1 = stPl (c :: st) := by
  have hc := h c List.mem_cons_self
  refine ⟨fun x hx => ?_, ?_⟩
  · rcases List.mem_append.mp hx with hx | hx
    · exact good_kids hc x hx
    · exact h x (List.mem_cons_of_mem _ hx)
  · rw [stPl_app, stPl_kids, stPl_cons, pl_blks c.2 (good_ok hc)]; omega
theorem st_first (p : List Sm) : stPl (p.map fun c => (0, c)) = Sm.pls p := by
  unfold stPl; rw [List.map_map, show ((fun x : Nat × Sm => x.2) ∘ fun x => (0, x)) = id from rfl, List.map_id]
theorem itm_map0 (b : List Sm) : (Sm.pys b).map (fun e => PyData.tuple [.int 0, e]) = (b.map fun c => (0, c)).map itm := by
  rw [pys_eq, List.map_map, List.map_map]; rfl
def sp_rows : Sp := fun vs H Q _ => ∃ (v : V) (p : List Sm), vs = [v] ∧ Dp K H v (bpy p) ∧ Sm.goods 0 p = true ∧ Sm.pls p ≤ 1000 ∧ ∀ (H' : Hp) (l : Addr) (xs : List V), Same H H' → H' l = some (.lst xs) → xs.length = Sm.pls p → Q (.ref l) H'
theorem ok_rows_of (T : Txt w K mg) : Cl P w K mg base CX0 3 "rows_of" ["program"] (sp_rows (K := K)) := by
  have c_items_within := ok_items_within (P := P) (base := base) T
  obtain ⟨fd, F⟩ := T.d_rows_of
  refine ⟨_, fd, T.g_rows_of, F.kp, (FunD.bindsN F (fun _ _ _ _ _ _ us hl => match us, hl with | [_], _ => rfl)), F.ok sc_rows_of (fun vs H Q E h => ?len) (fun cdv A outer s H vs Q E hr h => ?run)⟩
  case len =>
    obtain ⟨v, p, rfl, _⟩ := h
    rfl
  refine ⟨_, PSs.nox (pss_cons (ps_par (i := 1) (j := 2) (by rfl) sc_rows_of.nd rfl rfl (by decide) rfl rfl (pa_cons (pe_revL (pe_lc (own := [("item", 3)]) rfl sc_rows_of.nd (pi_tup (pv 0)) (blkOk_by (own := [("item", 3)]) (N := N_rows_of) (sc := (defScope s_rows_of)) (by decide +kernel)) (fun _ _ _ _ _ => pg_name (i := 3) sc_rows_of.nd rfl (Or.inl rfl)) (fun _ _ _ _ _ => pts_nil) (fun _ _ _ _ _ => (pe_tup (pa_cons pe_int (pa_cons (pv 3) pa_nil)))))) (pa_cons (pe_lst pa_nil) pa_nil)) (by rfl))
      (pss_cons (ps_while PassesOwn.never (pt_cmpR (op_neN hr.units0) (pv 1) (pe_lst pa_nil) (nomark _)) (pss_cons (ps_asg (pe_bm0 PySem.F.plainAttrs_list PySem.F.slot_list_pop PySem.F.type_list_pop mt_pop (pv 1)) (pg_tup rfl (pgs_cons (pg_name (i := 4) sc_rows_of.nd rfl (by first | exact Or.inl rfl | exact Or.inr rfl)) (pgs_cons (pg_name (i := 5) sc_rows_of.nd rfl (by first | exact Or.inl rfl | exact Or.inr rfl)) pgs_nil))))
      (pss_cons (ps_expr (pe_bm PySem.F.plainAttrs_list PySem.F.slot_list_append PySem.F.type_list_append mt_append (pv 2) (pa_cons (pe_tup (pa_cons (pv 4) (pa_cons (pv 5) pa_nil))) pa_nil)))
      (pss_one (ps_expr (pe_bm PySem.F.plainAttrs_list PySem.F.slot_list_extend PySem.F.type_list_extend mt_extend (pv 1) (pa_cons (pcl c_items_within (hr.mono (by omega)) (pa_cons (pv 5) (pa_cons (pv 4) pa_nil))) pa_nil)))))))
      (pss_one (ps_ret (pv 2))))), ?_⟩
  obtain ⟨v, p, rfl, hd, hg, hpl, k⟩ := h
  obtain ⟨a, us, rfl, hs, hus⟩ := dp_tup hd
  have hul : us.length = p.length := by rw [dpa_len hus, pys_eq]; simp
  have hpl2 := len_pls p
  walk_at "st"
  refine ⟨a, rfl, ⟨us, hs⟩, fun D hD => ?_⟩
  refine lc_pairs (d := 0) hs hus (noL_sms p) (by omega) ?_ ?_ ?_ hD (fun G2 zs s3 hz dz => ?_)
  · exact fun _ => rfl
  · exact fun _ => rfl
  · exact fun z H3 Q1 q1 => q1
  refine ⟨D, zs, rfl, .inl (.inl hz), fun L hL => ?_⟩
  walk_at "st"
  refine i_new (by simp) fun F hF => ?_
  walk_at "st"
  have LF : L ≠ F := ne_of_none upd_same hF
  have hL0 : H L = none := s3.free hL
  have sL := Same.grow (o := .lst zs.reverse) s3 hL
  have hF0 : H F = none := sL.free hF
  have sF := Same.grow (o := .lst []) sL hF
  rw [itm_map0] at dz
  have dz2 := dpa_rev (dpa_tk (TK.trans (TK.new (o := .lst zs.reverse) hL) (TK.new (o := .lst []) hF)) (noL_itm _) dz)
  rw [← List.map_reverse] at dz2
  refine i_while ⟨fun m σ G => ∃ x3 x4 x5 st xs fs, σ = [some (.ref a), some (.ref L), some (.ref F), x3, x4, x5] ∧ Same H G ∧ G L = some (.lst xs) ∧ G F = some (.lst fs) ∧ DpAll K G xs (st.reverse.map itm) ∧ stOk st ∧ fs.length + stPl st = Sm.pls p ∧ stPl st = m, ⟨_, _, _, _, p.map fun c => (0, c), zs.reverse, [], rfl, sF, ?_, upd_same, dz2, ?_, ?_, rfl⟩, ?_⟩
  · rw [upd_ne LF]; exact upd_same
  · intro c hc
    obtain ⟨y, hy, rfl⟩ := List.mem_map.mp hc
    exact goods_mem hg y hy
  · rw [st_first]; simp
  rintro m σ G ⟨x3, x4, x5, st, xs, fs, rfl, sG, gL, gF, dx, hok, hcnt, rfl⟩
  walk_at "st"
  refine i_new (by simp) fun e he => ?_
  refine i_neNL (.inl (.inl ((Same.new he) _ _ gL))) (.inl (.inl upd_same)) ?_
  walk_at "st"
  have sE := Same.grow (o := .lst []) sG he
  cases st with
  | nil =>
    obtain rfl := dpa_nil dx
    refine i_itf rfl ?_
    walk_at "st"
    exact k _ F fs sE ((Same.new he) _ _ gF) (by have : stPl [] = 0 := rfl; omega)
  | cons c st =>
    rw [List.reverse_cons, List.map_append] at dx
    obtain ⟨ys, u, rfl, dys, du⟩ := dpa_snoc dx
    refine i_ite (by simp) ?_
    refine i_N ?_
    walk_at "st"
    refine i_tyL (.inl (.inl ((Same.new he) _ _ gL))) ?_
    refine i_pop ((Same.new he) _ _ gL) ?_
    have eL : e ≠ L := (ne_of_none gL he).symm
    have eF : e ≠ F := (ne_of_none gF he).symm
    have tk1 : TK G (upd (upd G e (.lst [])) L (.lst ys)) := TK.trans (TK.new he) (TK.lst ((Same.new he) _ _ gL))
    obtain ⟨q, u1, u2, rfl, hq, h1, h2⟩ := dp_t2 du
    obtain rfl := dp_int h1
    have hq' := hq.imp (fun z => tk1 _ _ z) id
    refine i_gtup hq' rfl ?_
    refine i_gcons ?_
    walk_at "st"
    refine i_gcons ?_
    walk_at "st"
    refine i_gnil ?_
    walk_at "st"
    have gF1 : upd (upd G e (.lst [])) L (.lst ys) F = some (.lst fs) := by rw [upd_ne LF.symm, upd_ne eF.symm]; exact gF
    have hfl : fs.length ≤ 1000 := by omega
    have hcp : c.2.pl ≤ 1000 := by rw [stPl_cons] at hcnt; omega
    refine i_tyL (.inl (.inl gF1)) ?_
    walk_at "st"
    refine i_new (by simp) fun t ht => ?_
    walk_at "st"
    have tF : t ≠ F := (ne_of_none gF1 ht).symm
    refine i_append ((Same.new ht) _ _ gF1) (by omega) ?_
    walk_at "st"
    have tL : t ≠ L := (ne_of_none upd_same ht).symm
    have gL2 : upd (upd (upd (upd G e (.lst [])) L (.lst ys)) t (.tup [.int (c.1 : Int), u2])) F (.lst (fs ++ [.ref t])) L = some (.lst ys) := by rw [upd_ne LF, upd_ne tL.symm]; exact upd_same
    refine i_tyL (.inl (.inl gL2)) ?_
    walk_at "st"
    have tk2 : TK G (upd (upd (upd (upd G e (.lst [])) L (.lst ys)) t (.tup [.int (c.1 : Int), u2])) F (.lst (fs ++ [.ref t]))) := TK.trans tk1 (TK.trans (TK.new ht) (TK.lst ((Same.new ht) _ _ gF1)))
    have sG2 : Same H (upd (upd (upd (upd G e (.lst [])) L (.lst ys)) t (.tup [.int (c.1 : Int), u2])) F (.lst (fs ++ [.ref t]))) := Same.mut (Same.grow (Same.mut sE hL0) ht) hF0
    refine ⟨u2, c.2, c.1, rfl, dp_tk tk2 (noL_sm _) h2, good_ok (hok c List.mem_cons_self), hcp, fun G3 l ks s4 hl hl0 dk => ?_⟩
    walk_at "st"
    have hkl : ks.length ≤ 1000 := by
      rw [dpa_len dk, List.length_map, List.length_reverse, List.length_map]
      have := len_pls c.2.blks.flatten
      have := pl_blks c.2 (good_ok (hok c List.mem_cons_self))
      omega
    have hyl : ys.length ≤ 1000 := by
      rw [dpa_len dys, List.length_map, List.length_reverse]
      have := len_pls (st.map (·.2))
      rw [List.length_map] at this
      rw [stPl_cons] at hcnt
      have : stPl st = Sm.pls (st.map (·.2)) := rfl
      omega
    refine i_extend (s4 _ _ gL2) hl (by omega) ?_
    walk_at "st"
    exact ⟨stPl (kids c ++ st), by have := (st_next hok).2; omega, _, _, _, kids c ++ st, _, _, rfl, Same.mut (Same.trans sG2 s4) hL0, upd_same, by rw [upd_ne LF.symm]; exact s4 _ _ upd_same, by
      rw [List.reverse_append, List.map_append]
      have tk3 : TK G3 (upd G3 L (.lst (ys ++ ks))) := TK.lst (s4 _ _ gL2)
      exact dpa_app (dpa_tk (TK.trans tk2 (TK.trans (TK.of s4) tk3)) (noL_itm _) dys) (dpa_tk tk3 (noL_itm _) dk), (st_next hok).1, by
      have := (st_next hok).2
      rw [List.length_append, List.length_singleton]; omega, rfl⟩
end
end K04
/-! text A5 -/
set_option Elab.async false
set_option linter.all false
set_option maxRecDepth 100000
set_option maxHeartbeats 4000000
namespace K04
open PySem PySem.Spec PyProof.Rows L2 TL
local macro_rules
  | `(tactic| walk_at "st") => `(tactic| repeat (with_reducible first
    | refine i_seq ?_ | refine i_ret ?_ | refine i_asg ?_ | refine i_name ?_ | refine i_ifs ?_ | refine i_test ?_ | refine i_B ?_ | refine i_bl ?_ | refine i_var (by with_unfolding_all rfl) ?_ | refine i_c ?_
    | refine i_op ?_ | refine i_un ?_ | refine i_cb ?_ | refine i_cons ?_ | refine i_nil ?_ | refine i_call ?_ | refine i_and ?_ | refine i_or ?_ | refine i_not ?_ | refine i_andV ?_ | refine i_orV ?_ | refine i_notV ?_ | refine i_if ?_
    | refine i_tup ?_ | refine i_lst ?_ | refine i_sl ?_ | refine i_nopart ?_ | refine i_part ?_ | refine i_int ?_ | refine i_chain ?_ | refine i_I0 ?_ | refine i_par ?_ | refine i_two ?_ | refine i_bm ?_ | refine i_bm0 ?_ | refine i_m1 ?_ | refine i_tyS ?_ | refine i_str ?_
    | refine i_for ?_ | refine i_iTup ?_ | refine i_iList ?_ | refine i_iStr ?_ | refine i_iRng1 ?_ | refine i_iRng2 ?_ | refine i_iEnum ?_ | refine i_lc ?_ | refine i_yes ?_ | refine i_revL ?_ | refine i_fld ?_ | refine i_sfld ?_ | refine i_meth ?_ | refine i_make ?_ | refine i_isN ?_ | refine i_notN ?_ | refine i_intB ?_ | refine i_intI ?_
    | refine i_next ?_ | refine i_drop ?_ | refine i_retN ?_ | refine i_gsub ?_ | refine i_ipI ?_ | refine i_aug (by with_unfolding_all rfl) ?_
    | refine i_eq (by with_unfolding_all rfl) ?_ | refine i_ne (by with_unfolding_all rfl) ?_))
abbrev N_order_error : List Str := ["value", "left", "place", "item", "depth"]
theorem sc_order_error : FnScope N_order_error ["value"] (defScope s_order_error) := ⟨rfl, rfl, rfl, by decide +kernel, rfl, by decide +kernel, by decide +kernel⟩
abbrev N_bare : List Str := ["test"]
theorem sc_bare : FnScope N_bare ["test"] (defScope s_bare) := ⟨rfl, rfl, rfl, by decide +kernel, rfl, by decide +kernel, by decide +kernel⟩
abbrev N_own_count : List Str := ["statement", "sort"]
theorem sc_own_count : FnScope N_own_count ["statement", "sort"] (defScope s_own_count) := ⟨rfl, rfl, rfl, by decide +kernel, rfl, by decide +kernel, by decide +kernel⟩
section
variable {P : Program} {w : World} {K : PySem.W.Frag} {mg : Str → Option Value} {base : Heap}
def sp_order : Sp := fun vs H Q _ => ∃ (v : V) (p : List Sm), vs = [v] ∧ Dp K H v (bpy p) ∧ Sm.goods 0 p = true ∧ Sm.pls p ≤ 1000 ∧ ∀ (H' : Hp), Same H H' → Q .non H'
theorem ok_order_error (T : Txt w K mg) : Cl P w K mg base CX0 11 "order_error" ["value"] (sp_order (K := K)) := by
  have c_items_within := ok_items_within (P := P) (base := base) T
  have c_is_statement := ok_is_st (P := P) (base := base) T
  obtain ⟨fd, F⟩ := T.d_order_error
  obtain ⟨_, hc_MAX_NEST⟩ := T.c_MAX_NEST
  refine ⟨_, fd, T.g_order_error, F.kp, (FunD.bindsN F (fun _ _ _ _ _ _ us hl => match us, hl with | [_], _ => rfl)), F.ok sc_order_error (fun vs H Q E h => ?len) (fun cdv A outer s H vs Q E hr h => ?run)⟩
  case len =>
    obtain ⟨v, p, rfl, _⟩ := h
    rfl
  refine ⟨_, PSs.nox (pss_cons (ps_par (i := 1) (j := 2) (by rfl) sc_order_error.nd rfl rfl (by decide) rfl rfl (pa_cons (pe_revL (pe_lc (own := [("item", 3)]) rfl sc_order_error.nd (pi_tup (pv 0)) (blkOk_by (own := [("item", 3)]) (N := N_order_error) (sc := (defScope s_order_error)) (by decide +kernel)) (fun _ _ _ _ _ => pg_name (i := 3) sc_order_error.nd rfl (Or.inl rfl)) (fun _ _ _ _ _ => pts_nil) (fun _ _ _ _ _ => (pe_tup (pa_cons pe_int (pa_cons (pv 3) pa_nil)))))) (pa_cons pe_int pa_nil)) (by rfl))
      (pss_cons (ps_while PassesOwn.never (pt_cmpR (op_neN hr.units0) (pv 1) (pe_lst pa_nil) (nomark _)) (pss_cons (ps_asg (pe_bm0 PySem.F.plainAttrs_list PySem.F.slot_list_pop PySem.F.type_list_pop mt_pop (pv 1)) (pg_tup rfl (pgs_cons (pg_name (i := 4) sc_order_error.nd rfl (by first | exact Or.inl rfl | exact Or.inr rfl)) (pgs_cons (pg_name (i := 3) sc_order_error.nd rfl (by first | exact Or.inl rfl | exact Or.inr rfl)) pgs_nil))))
      (pss_cons (ps_if (pt_cmpR op_gt (pv 4) (pe_glob (v := .int 3) rfl hc_MAX_NEST ⟨_, rfl⟩) (nomark _)) (pss_one (ps_ret (pe_tup (pa_cons (pv 2) (pa_cons pe_str pa_nil))))) pss_nil)
      (pss_cons (ps_if (pt_not (pt_val (pcl c_is_statement (hr.mono (by omega)) (pa_cons (pv 3) pa_nil)))) (pss_one (ps_ret (pe_tup (pa_cons (pv 2) (pa_cons pe_str pa_nil))))) pss_nil)
      (pss_cons (ps_expr (pe_bm PySem.F.plainAttrs_list PySem.F.slot_list_extend PySem.F.type_list_extend mt_extend (pv 1) (pa_cons (pcl c_items_within (hr.mono (by omega)) (pa_cons (pv 3) (pa_cons (pv 4) pa_nil))) pa_nil)))
      (pss_one (ps_aug (i := 2) sc_order_error.nd rfl (by first | exact Or.inl rfl | exact Or.inr rfl) pe_int ip_add)))))))
      (pss_one (ps_ret pe_non)))), ?_⟩
  obtain ⟨v, p, rfl, hd, hg, hpl, k⟩ := h
  obtain ⟨a, us, rfl, hs, hus⟩ := dp_tup hd
  have hul : us.length = p.length := by rw [dpa_len hus, pys_eq]; simp
  have hpl2 := len_pls p
  walk_at "st"
  refine ⟨a, rfl, ⟨us, hs⟩, fun D hD => ?_⟩
  refine lc_pairs (d := 0) hs hus (noL_sms p) (by omega) ?_ ?_ ?_ hD (fun G2 zs s3 hz dz => ?_)
  · exact fun _ => rfl
  · exact fun _ => rfl
  · exact fun z H3 Q1 q1 => q1
  refine ⟨D, zs, rfl, .inl (.inl hz), fun L hL => ?_⟩
  walk_at "st"
  have hL0 : H L = none := s3.free hL
  have sL := Same.grow (o := .lst zs.reverse) s3 hL
  rw [itm_map0] at dz
  have dz2 := dpa_rev (dpa_tk (TK.new (o := .lst zs.reverse) hL) (noL_itm _) dz)
  rw [← List.map_reverse] at dz2
  refine i_while ⟨fun m σ G => ∃ i x3 x4 st xs, σ = [some (.ref a), some (.ref L), some (.int i), x3, x4] ∧ Same H G ∧ G L = some (.lst xs) ∧ DpAll K G xs (st.reverse.map itm) ∧ stOk st ∧ stPl st ≤ Sm.pls p ∧ stPl st = m, ⟨_, _, _, _, p.map fun c => (0, c), zs.reverse, rfl, sL, upd_same, dz2, ?_, ?_, rfl⟩, ?_⟩
  · intro c hc
    obtain ⟨y, hy, rfl⟩ := List.mem_map.mp hc
    exact goods_mem hg y hy
  · rw [st_first]; exact Nat.le_refl _
  rintro m σ G ⟨i, x3, x4, st, xs, rfl, sG, gL, dx, hok, hcnt, rfl⟩
  walk_at "st"
  refine i_new (by simp) fun e he => ?_
  refine i_neNL (.inl (.inl ((Same.new he) _ _ gL))) (.inl (.inl upd_same)) ?_
  walk_at "st"
  have sE := Same.grow (o := .lst []) sG he
  cases st with
  | nil =>
    obtain rfl := dpa_nil dx
    refine i_itf rfl ?_
    walk_at "st"
    exact k _ sE
  | cons c st =>
    rw [List.reverse_cons, List.map_append] at dx
    obtain ⟨ys, u, rfl, dys, du⟩ := dpa_snoc dx
    refine i_ite (by simp) ?_
    refine i_N ?_
    walk_at "st"
    refine i_tyL (.inl (.inl ((Same.new he) _ _ gL))) ?_
    refine i_pop ((Same.new he) _ _ gL) ?_
    have eL : e ≠ L := (ne_of_none gL he).symm
    have tk1 : TK G (upd (upd G e (.lst [])) L (.lst ys)) := TK.trans (TK.new he) (TK.lst ((Same.new he) _ _ gL))
    obtain ⟨q, u1, u2, rfl, hq, h1, h2⟩ := dp_t2 du
    obtain rfl := dp_int h1
    have hq' := hq.imp (fun z => tk1 _ _ z) id
    have hgc := hok c List.mem_cons_self
    refine i_gtup hq' rfl ?_
    refine i_gcons ?_
    walk_at "st"
    refine i_gcons ?_
    walk_at "st"
    refine i_gnil ?_
    walk_at "st"
    have hcp : c.2.pl ≤ 1000 := by rw [stPl_cons] at hcnt; omega
    have s1 : Same H (upd (upd G e (.lst [])) L (.lst ys)) := Same.mut sE hL0
    refine i_itf (decide_eq_false (by have := good_deep hgc; omega)) ?_
    walk_at "st"
    refine ⟨u2, c.2, rfl, dp_tk tk1 (noL_sm _) h2, good_ok hgc, fun G1 s2 => ?_⟩
    walk_at "st"
    refine i_itf rfl ?_
    walk_at "st"
    refine i_tyL (.inl (.inl (s2 _ _ upd_same))) ?_
    walk_at "st"
    refine ⟨u2, c.2, c.1, rfl, dp_mono s2 (dp_tk tk1 (noL_sm _) h2), good_ok hgc, hcp, fun G3 l ks s4 hl hl0 dk => ?_⟩
    walk_at "st"
    have hkl : ks.length ≤ 1000 := by
      rw [dpa_len dk, List.length_map, List.length_reverse, List.length_map]
      have := len_pls c.2.blks.flatten
      have := pl_blks c.2 (good_ok hgc)
      omega
    have hyl : ys.length ≤ 1000 := by
      rw [dpa_len dys, List.length_map, List.length_reverse]
      have := len_pls (st.map (·.2))
      rw [List.length_map] at this
      rw [stPl_cons] at hcnt
      have : stPl st = Sm.pls (st.map (·.2)) := rfl
      omega
    refine i_extend (s4 _ _ (s2 _ _ upd_same)) hl (by omega) ?_
    walk_at "st"
    exact ⟨stPl (kids c ++ st), by have := (st_next hok).2; omega, _, _, _, kids c ++ st, _, rfl, Same.mut (Same.trans s1 (Same.trans s2 s4)) hL0, upd_same, by
      rw [List.reverse_append, List.map_append]
      have tk3 : TK G3 (upd G3 L (.lst (ys ++ ks))) := TK.lst (s4 _ _ (s2 _ _ upd_same))
      exact dpa_app (dpa_tk (TK.trans tk1 (TK.trans (TK.of (Same.trans s2 s4)) tk3)) (noL_itm _) dys) (dpa_tk tk3 (noL_itm _) dk), (st_next hok).1, by
      have := (st_next hok).2
      omega, rfl⟩
/-! bare -/
def sp_bare : Sp := fun vs H Q _ => ∃ (v : V) (t : Te), vs = [v] ∧ Dp K H v t.py ∧ ∀ u, Dp K H u t.bare.py → Q u H
def Te.wd : Te → Str
  | .less _ _ => "less" | .rest _ _ _ => "rest" | .no _ => "not"
theorem te_head {H : Hp} {v : V} {t : Te} (h : Dp K H v t.py) : ∃ p xs, v = .ref p ∧ SqT K H p (.str t.wd :: xs) ∧ (∀ t', t = .no t' → ∃ u, xs = [u] ∧ Dp K H u t'.py) := by
  cases t with
  | less a b =>
    obtain ⟨p, u1, u2, u3, rfl, hs, h1, h2, h3⟩ := dp_t3 h
    obtain rfl := dp_str h1
    exact ⟨p, _, rfl, hs, fun _ z => by cases z⟩
  | rest e q r =>
    obtain ⟨p, u1, u2, u3, u4, rfl, hs, h1, h2, h3, h4⟩ := dp_t4 h
    obtain rfl := dp_str h1
    exact ⟨p, _, rfl, hs, fun _ z => by cases z⟩
  | no t =>
    obtain ⟨p, u1, u2, rfl, hs, h1, h2⟩ := dp_t2 h
    obtain rfl := dp_str h1
    exact ⟨p, _, rfl, hs, fun _ z => by cases z; exact ⟨_, rfl, h2⟩⟩
theorem ok_bare (T : Txt w K mg) : Cl P w K mg base CX0 1 "bare" ["test"] (sp_bare (K := K)) := by
  obtain ⟨fd, F⟩ := T.d_bare
  refine ⟨_, fd, T.g_bare, F.kp, (FunD.bindsN F (fun _ _ _ _ _ _ us hl => match us, hl with | [_], _ => rfl)), F.ok sc_bare (fun vs H Q E h => ?len) (fun cdv A outer s H vs Q E hr h => ?run)⟩
  case len =>
    obtain ⟨v, t, rfl, _⟩ := h
    rfl
  refine ⟨_, PSs.nox (pss_cons (ps_while PassesOwn.never (pt_cmpR op_eq (pe_ix ix_tup (pv 0) pe_int (fun _ _ => rfl)) pe_str (nomark _)) (pss_one (ps_set (i := 0) sc_bare.nd rfl (by first | exact Or.inl rfl | exact Or.inr rfl) (pe_ix ix_tup (pv 0) pe_int (fun _ _ => rfl)))))
      (pss_one (ps_ret (pv 0)))), ?_⟩
  obtain ⟨v, t, rfl, hd, k⟩ := h
  refine i_seq ?_
  refine i_while ⟨fun m σ G => ∃ u t', σ = [some u] ∧ G = H ∧ Dp K H u t'.py ∧ t'.bare = t.bare ∧ t'.nots = m, ⟨_, _, t, rfl, rfl, hd, rfl, rfl⟩, ?_⟩
  rintro m σ G ⟨u, t', rfl, rfl, hu, eb, rfl⟩
  obtain ⟨p, xs, rfl, hs, hno⟩ := te_head hu
  walk_at "st"
  refine i_ix0 hs ?_
  walk_at "st"
  cases t' with
  | no t' =>
    obtain ⟨u, rfl, du⟩ := hno t' rfl
    refine i_ite rfl ?_
    refine i_N ?_
    walk_at "st"
    refine i_ix1 hs ?_
    walk_at "st"
    exact ⟨t'.nots, Nat.lt_succ_self _, _, t', rfl, rfl, du, eb, rfl⟩
  | less a b =>
    refine i_itf (by show decide (V.str "less" = .str "not") = false; decide +kernel) ?_
    walk_at "st"
    refine k _ ?_
    rw [← eb]; exact hu
  | rest e q r =>
    refine i_itf (by show decide (V.str "rest" = .str "not") = false; decide +kernel) ?_
    walk_at "st"
    refine k _ ?_
    rw [← eb]; exact hu
/-! own_count -/
def Sm.wd : Sm → Str
  | .set _ _ => "set" | .pay _ => "pay" | .stop => "stop" | .ift _ _ _ => "if" | .cho h _ _ => hand h | .rep _ _ => "repeat" | .half h _ => hand h
theorem sm_head {H : Hp} {v : V} {s : Sm} (h : Dp K H v s.py) : ∃ p xs, v = .ref p ∧ SqT K H p (.str s.wd :: xs) := by
  cases s with
  | set x e => obtain ⟨p, u1, u2, u3, rfl, hs, h1, h2, h3⟩ := dp_t3 h; obtain rfl := dp_str h1; exact ⟨p, _, rfl, hs⟩
  | pay e => obtain ⟨p, u1, u2, rfl, hs, h1, h2⟩ := dp_t2 h; obtain rfl := dp_str h1; exact ⟨p, _, rfl, hs⟩
  | stop => obtain ⟨p, u1, rfl, hs, h1⟩ := dp_t1 h; obtain rfl := dp_str h1; exact ⟨p, _, rfl, hs⟩
  | ift t y n => obtain ⟨p, u1, u2, u3, u4, rfl, hs, h1, h2, h3, h4⟩ := dp_t4 h; obtain rfl := dp_str h1; exact ⟨p, _, rfl, hs⟩
  | cho hh a b => obtain ⟨p, u1, u2, u3, rfl, hs, h1, h2, h3⟩ := dp_t3 h; obtain rfl := dp_str h1; exact ⟨p, _, rfl, hs⟩
  | rep m b => obtain ⟨p, u1, u2, u3, rfl, hs, h1, h2, h3⟩ := dp_t3 h; obtain rfl := dp_str h1; exact ⟨p, _, rfl, hs⟩
  | half hh a => obtain ⟨p, u1, u2, rfl, hs, h1, h2⟩ := dp_t2 h; obtain rfl := dp_str h1; exact ⟨p, _, rfl, hs⟩
def sp_own : Sp := fun vs H Q _ => ∃ (v : V) (s : Sm) (q : Srt), vs = [v, .str q.str] ∧ Dp K H v s.py ∧ ∀ H', Same H H' → Q (.int (Sm.own q s : Nat)) H'
theorem own_lr (q : Srt) (s : Sm) (h : q = .less ∨ q = .rest) : Sm.own q s = (match s with | .ift t _ _ => if t.bare.is q then 1 else 0 | _ => 0) := by rcases h with rfl | rfl <;> rfl
theorem hw_set : inV (.str "set") [.str "we", .str "they"] = false := by decide +kernel
theorem hw_pay : inV (.str "pay") [.str "we", .str "they"] = false := by decide +kernel
theorem hw_stop : inV (.str "stop") [.str "we", .str "they"] = false := by decide +kernel
theorem hw_if : inV (.str "if") [.str "we", .str "they"] = false := by decide +kernel
theorem hw_rep : inV (.str "repeat") [.str "we", .str "they"] = false := by decide +kernel
theorem hw_hand (h : Bool) : inV (.str (hand h)) [.str "we", .str "they"] = true := by cases h <;> decide +kernel
theorem hand_no (h : Bool) : decide (V.str (hand h) = .str "set") = false ∧ decide (V.str (hand h) = .str "pay") = false ∧ decide (V.str (hand h) = .str "if") = false ∧ decide (V.str (hand h) = .str "repeat") = false := by cases h <;> decide +kernel
theorem te_rest : decide (V.str "less" = .str "rest") = false ∧ decide (V.str "rest" = .str "rest") = true ∧ decide (V.str "not" = .str "rest") = false := by decide +kernel
theorem te_less : decide (V.str "less" = .str "less") = true ∧ decide (V.str "rest" = .str "less") = false ∧ decide (V.str "not" = .str "less") = false := by decide +kernel
theorem te_is_rest (t : Te) : decide (V.str t.wd = .str "rest") = t.is .rest := by
  cases t with
  | less a b => exact te_rest.1
  | rest a b c => exact te_rest.2.1
  | no t => exact te_rest.2.2
theorem te_is_less (t : Te) : decide (V.str t.wd = .str "less") = t.is .less := by
  cases t with
  | less a b => exact te_less.1
  | rest a b c => exact te_less.2.1
  | no t => exact te_less.2.2
theorem wd_hands (s : Sm) : inV (.str s.wd) [.str "we", .str "they"] = decide (Sm.own .choice s = 1) := by
  cases s with
  | set _ _ => exact hw_set
  | pay _ => exact hw_pay
  | stop => exact hw_stop
  | ift _ _ _ => exact hw_if
  | rep _ _ => exact hw_rep
  | cho h _ _ => exact hw_hand h
  | half h _ => exact hw_hand h
theorem own_choice (s : Sm) : (if inV (.str s.wd) [.str "we", .str "they"] then (1 : Int) else 0) = (Sm.own .choice s : Nat) := by
  rw [wd_hands]
  cases s <;> rfl
theorem ok_own_count (T : Txt w K mg) : Cl P w K mg base CX0 2 "own_count" ["statement", "sort"] (sp_own (K := K)) := by
  have c_bare := ok_bare (P := P) (base := base) T
  obtain ⟨fd, F⟩ := T.d_own_count
  refine ⟨_, fd, T.g_own_count, F.kp, (FunD.bindsN F (fun _ _ _ _ _ _ us hl => match us, hl with | [_, _], _ => rfl)), F.ok sc_own_count (fun vs H Q E h => ?len) (fun cdv A outer s H vs Q E hr h => ?run)⟩
  case len =>
    obtain ⟨v, s, q, rfl, _⟩ := h
    rfl
  refine ⟨_, PSs.nox (pss_cons (ps_if (pt_cmpR op_eq (pv 1) pe_str (nomark _)) (pss_one (ps_ret pe_int)) pss_nil)
      (pss_cons (ps_if (pt_cmpR op_eq (pv 1) pe_str (nomark _)) (pss_one (ps_ret (pe_callTy call_intX (by rfl) T.f_int (by decide +kernel) (pa_cons (pe_cmpR op_in_seq (pe_ix ix_tup (pv 0) pe_int (fun _ _ => rfl)) (pe_glob (v := .ref _) rfl T.g_CHOICES rfl) (by rfl)) pa_nil)))) pss_nil)
      (pss_one (ps_ret (pe_callTy call_intX (by rfl) T.f_int (by decide +kernel) (pa_cons (pe_and (pe_cmpR op_eq (pe_ix ix_tup (pv 0) pe_int (fun _ _ => rfl)) pe_str (nomark _)) (pe_one (pe_cmpR op_eq (pe_ix ix_tup (pcl c_bare (hr.mono (by omega)) (pa_cons (pe_ix ix_tup (pv 0) pe_int (fun _ _ => rfl)) pa_nil)) pe_int (fun _ _ => rfl)) (pv 1) (nomark _)))) pa_nil)))))), ?_⟩
  obtain ⟨v, s', q, rfl, hd, k⟩ := h
  obtain ⟨p, xs, rfl, hs⟩ := sm_head hd
  walk_at "st"
  cases q with
  | weight =>
    refine i_ite rfl ?_
    walk_at "st"
    exact k _ (Same.refl _)
  | choice =>
    refine i_itf rfl ?_
    walk_at "st"
    refine i_ite rfl ?_
    walk_at "st"
    refine i_ix0 hs ?_
    walk_at "st"
    refine i_inT (T.t_CHOICES _) rfl rfl ?_
    walk_at "st"
    have := k _ (Same.refl _)
    rw [← own_choice] at this
    exact this
  | rest =>
    refine i_itf rfl ?_
    walk_at "st"
    refine i_itf rfl ?_
    walk_at "st"
    refine i_ix0 hs ?_
    walk_at "st"
    have k2 := k _ (Same.refl _)
    rw [own_lr _ _ (.inr rfl)] at k2
    cases s' with
    | ift t y n =>
      obtain ⟨p', u1, u2, u3, u4, e, hs, h1, h2, h3, h4⟩ := dp_t4 hd
      cases e
      obtain rfl := dp_str h1
      refine i_ite rfl ?_
      walk_at "st"
      refine i_ix1 hs ?_
      walk_at "st"
      refine ⟨_, t, rfl, h2, fun u hu => ?_⟩
      obtain ⟨pu, xu, rfl, hsu, _⟩ := te_head hu
      walk_at "st"
      refine i_ix0 hsu ?_
      walk_at "st"
      have e2 : decide (V.str t.bare.wd = V.str Srt.rest.str) = t.bare.is .rest := te_is_rest t.bare
      rw [e2]
      have k3 : Q (.int ((if t.bare.is .rest = true then 1 else 0 : Nat) : Int)) H := k2
      cases z : t.bare.is .rest <;> rw [z] at k3 <;> exact k3
    | cho h a b => refine i_itf (hand_no h).2.2.1 ?_; walk_at "st"; exact k2
    | half h a => refine i_itf (hand_no h).2.2.1 ?_; walk_at "st"; exact k2
    | _ => refine i_itf rfl ?_; walk_at "st"; exact k2
  | less =>
    refine i_itf rfl ?_
    walk_at "st"
    refine i_itf rfl ?_
    walk_at "st"
    refine i_ix0 hs ?_
    walk_at "st"
    have k2 := k _ (Same.refl _)
    rw [own_lr _ _ (.inl rfl)] at k2
    cases s' with
    | ift t y n =>
      obtain ⟨p', u1, u2, u3, u4, e, hs, h1, h2, h3, h4⟩ := dp_t4 hd
      cases e
      obtain rfl := dp_str h1
      refine i_ite rfl ?_
      walk_at "st"
      refine i_ix1 hs ?_
      walk_at "st"
      refine ⟨_, t, rfl, h2, fun u hu => ?_⟩
      obtain ⟨pu, xu, rfl, hsu, _⟩ := te_head hu
      walk_at "st"
      refine i_ix0 hsu ?_
      walk_at "st"
      have e2 : decide (V.str t.bare.wd = V.str Srt.less.str) = t.bare.is .less := te_is_less t.bare
      rw [e2]
      have k3 : Q (.int ((if t.bare.is .less = true then 1 else 0 : Nat) : Int)) H := k2
      cases z : t.bare.is .less <;> rw [z] at k3 <;> exact k3
    | cho h a b => refine i_itf (hand_no h).2.2.1 ?_; walk_at "st"; exact k2
    | half h a => refine i_itf (hand_no h).2.2.1 ?_; walk_at "st"; exact k2
    | _ => refine i_itf rfl ?_; walk_at "st"; exact k2
end
end K04
/-! text A6 -/
set_option Elab.async false
set_option linter.all false
set_option maxRecDepth 100000
set_option maxHeartbeats 4000000
namespace K04
open PySem PySem.Spec PyProof.Rows L2 TL
local macro_rules
  | `(tactic| walk_at "st") => `(tactic| repeat (with_reducible first
    | refine i_seq ?_ | refine i_ret ?_ | refine i_asg ?_ | refine i_name ?_ | refine i_ifs ?_ | refine i_test ?_ | refine i_B ?_ | refine i_bl ?_ | refine i_var (by with_unfolding_all rfl) ?_ | refine i_c ?_
    | refine i_op ?_ | refine i_un ?_ | refine i_cb ?_ | refine i_cons ?_ | refine i_nil ?_ | refine i_call ?_ | refine i_and ?_ | refine i_or ?_ | refine i_not ?_ | refine i_andV ?_ | refine i_orV ?_ | refine i_notV ?_ | refine i_if ?_
    | refine i_tup ?_ | refine i_lst ?_ | refine i_sl ?_ | refine i_nopart ?_ | refine i_part ?_ | refine i_int ?_ | refine i_chain ?_ | refine i_I0 ?_ | refine i_par ?_ | refine i_two ?_ | refine i_bm ?_ | refine i_bm0 ?_ | refine i_m1 ?_ | refine i_tyS ?_ | refine i_str ?_
    | refine i_for ?_ | refine i_iTup ?_ | refine i_iList ?_ | refine i_iStr ?_ | refine i_iRng1 ?_ | refine i_iRng2 ?_ | refine i_iEnum ?_ | refine i_lc ?_ | refine i_yes ?_ | refine i_revL ?_ | refine i_fld ?_ | refine i_sfld ?_ | refine i_meth ?_ | refine i_make ?_ | refine i_isN ?_ | refine i_notN ?_ | refine i_intB ?_ | refine i_intI ?_
    | refine i_next ?_ | refine i_drop ?_ | refine i_retN ?_ | refine i_gsub ?_ | refine i_ipI ?_ | refine i_aug (by with_unfolding_all rfl) ?_
    | refine i_eq (by with_unfolding_all rfl) ?_ | refine i_ne (by with_unfolding_all rfl) ?_))
abbrev N_counted : List Str := ["block", "sort", "found", "statement", "inner", "part"]
theorem sc_counted : FnScope N_counted ["block", "sort"] (defScope s_counted) := ⟨rfl, rfl, rfl, by decide +kernel, rfl, by decide +kernel, by decide +kernel⟩
abbrev N_weight : List Str := ["program"]
theorem sc_weight : FnScope N_weight ["program"] (defScope s_weight) := ⟨rfl, rfl, rfl, by decide +kernel, rfl, by decide +kernel, by decide +kernel⟩
abbrev N_program_error : List Str := ["value", "found"]
theorem sc_program_error : FnScope N_program_error ["value"] (defScope s_program_error) := ⟨rfl, rfl, rfl, by decide +kernel, rfl, by decide +kernel, by decide +kernel⟩
section
variable {P : Program} {w : World} {K : PySem.W.Frag} {mg : Str → Option Value} {base : Heap}
def sp_counted (n : Nat) : Sp := fun vs H Q _ => ∃ (v : V) (b : List Sm) (q : Srt) (d : Nat), vs = [v, .str q.str] ∧ Dp K H v (bpy b) ∧ n + d = 4 ∧ Sm.goods d b = true ∧ Sm.pls b ≤ 1000 ∧ ∀ (H' : Hp), Same H H' → Q (.int (Sm.cnts q b : Nat)) H'
def Sm.mul : Sm → Nat
  | .rep k _ => k.toNat
  | _ => 1
theorem cnt_eq (q : Srt) (s : Sm) (h : s.ok = true) : s.cnt q = Sm.own q s + (s.blks.map (Sm.cnts q)).sum * s.mul := by
  cases s <;> simp only [Sm.cnt, Sm.blks, Sm.mul, List.map_cons, List.map_nil, List.sum_cons, List.sum_nil, Nat.zero_mul, Nat.mul_one, Nat.add_zero]
  cases h
theorem sum_ints : ∀ l : List Nat, (l.map fun (x : Nat) => (x : Int)).sum = ((l.sum : Nat) : Int)
  | [] => rfl
  | a :: r => by
    rw [List.map_cons, List.sum_cons, List.sum_cons, sum_ints r]; omega
theorem cnts_app (q : Srt) : ∀ a b : List Sm, Sm.cnts q (a ++ b) = Sm.cnts q a + Sm.cnts q b
  | [], b => by simp [Sm.cnts]
  | s :: r, b => by
    show s.cnt q + Sm.cnts q (r ++ b) = (s.cnt q + Sm.cnts q r) + Sm.cnts q b
    rw [cnts_app q r b]; omega
theorem blks_good {d : Nat} {s : Sm} (h : s.good d = true) : ∀ b ∈ s.blks, Sm.goods (d + 1) b = true := by
  intro b hb
  cases s <;> simp only [Sm.good, Bool.and_eq_true, decide_eq_true_eq] at h <;> simp only [Sm.blks, List.mem_cons, List.not_mem_nil, or_false] at hb
  · rcases hb with rfl | rfl
    · exact h.1.2
    · exact h.2
  · rcases hb with rfl | rfl
    · exact h.1.2
    · exact h.2
  · subst hb; exact h.2
theorem blks_pl {s : Sm} (h : s.ok = true) : ∀ b ∈ s.blks, Sm.pls b ≤ s.pl := by
  intro b hb
  cases s <;> simp only [Sm.blks, List.mem_cons, List.not_mem_nil, or_false] at hb
  · rcases hb with rfl | rfl <;> simp only [Sm.pl] <;> omega
  · rcases hb with rfl | rfl <;> simp only [Sm.pl] <;> omega
  · subst hb; simp only [Sm.pl]; omega
theorem pl_mem : ∀ {l : List Sm} {s : Sm}, s ∈ l → s.pl ≤ Sm.pls l
  | [], s, h => by cases h
  | a :: r, s, h => by
    show s.pl ≤ a.pl + Sm.pls r
    rcases List.mem_cons.mp h with rfl | h
    · omega
    · have := pl_mem h; omega
theorem rep_no : decide (V.str "set" = .str "repeat") = false ∧ decide (V.str "pay" = .str "repeat") = false ∧ decide (V.str "stop" = .str "repeat") = false ∧ decide (V.str "if" = .str "repeat") = false := by decide +kernel
theorem ok_counted0 (T : Txt w K mg) (n : Nat) (c_counted : Cl P w K mg base CX0 (n + 2) "counted" ["block", "sort"] (fun vs H Q E => ∃ m, n = m + 1 ∧ sp_counted (K := K) m vs H Q E)) : Cl P w K mg base CX0 (n + 3) "counted" ["block", "sort"] (sp_counted (K := K) n) := by
  have c_blocks_of := ok_blocks_of (P := P) (base := base) T
  have c_own_count := ok_own_count (P := P) (base := base) T
  obtain ⟨fd, F⟩ := T.d_counted
  refine ⟨_, fd, T.g_counted, F.kp, (FunD.bindsN F (fun _ _ _ _ _ _ us hl => match us, hl with | [_, _], _ => rfl)), F.ok sc_counted (fun vs H Q E h => ?len) (fun cdv A outer s H vs Q E hr h => ?run)⟩
  case len =>
    obtain ⟨v, b, q, d, rfl, _⟩ := h
    rfl
  refine ⟨_, PSs.nox (pss_cons (ps_set (i := 2) sc_counted.nd rfl (by first | exact Or.inl rfl | exact Or.inr rfl) pe_int)
      (pss_cons (ps_for PassesOwn.never rfl (pi_tup (pv 0)) (pg_name (i := 3) sc_counted.nd rfl (by first | exact Or.inl rfl | exact Or.inr rfl)) (pss_cons (ps_set (i := 4) sc_counted.nd rfl (by first | exact Or.inl rfl | exact Or.inr rfl) (pe_callB (cr_sum rfl) (by rfl) T.f_sum (by decide +kernel) (pa_cons (pe_lc (own := [("part", 5)]) rfl sc_counted.nd (pi_list (pcl c_blocks_of (hr.mono (by omega)) (pa_cons (pv 3) pa_nil))) (blkOk_by (own := [("part", 5)]) (N := N_counted) (sc := (defScope s_counted)) (by decide +kernel)) (fun _ _ _ _ _ => pg_name (i := 5) sc_counted.nd rfl (Or.inl rfl)) (fun _ _ _ _ _ => pts_nil) (fun _ _ _ _ _ => (pcl c_counted (hr.mono (by omega)) (pa_cons (pv 5) (pa_cons (pv 1) pa_nil))))) pa_nil)))
      (pss_one (ps_aug (i := 2) sc_counted.nd rfl (by first | exact Or.inl rfl | exact Or.inr rfl) (pe_op op_add (pcl c_own_count (hr.mono (by omega)) (pa_cons (pv 3) (pa_cons (pv 1) pa_nil))) (pe_op op_mul (pv 4) (pe_ifExp (pt_cmpR op_eq (pe_ix ix_tup (pv 3) pe_int (fun _ _ => rfl)) pe_str (nomark _)) (pe_ix ix_tup (pv 3) pe_int (fun _ _ => rfl)) pe_int))) ip_add))))
      (pss_one (ps_ret (pv 2))))), ?_⟩
  obtain ⟨v, b, q, d, rfl, hd, hnd, hg, hpl, k⟩ := h
  obtain ⟨a, us, rfl, hs, hus⟩ := dp_tup hd
  have hul : us.length = b.length := by rw [dpa_len hus, pys_eq]; simp
  walk_at "st"
  refine ⟨a, rfl, ⟨us, hs⟩, ?_⟩
  refine for_it (walk_tup (xs := us)) (fun j τ G => (∃ x3 x4 x5, τ = [some (.ref a), some (.str q.str), some (.int (Sm.cnts q (b.take j) : Nat)), x3, x4, x5]) ∧ Same H G) ⟨⟨_, _, _, rfl⟩, Same.refl _⟩ (fun j τ G _ h => Same.tup h.2 hs) ?_ ?_
  · rintro j x τ G G' hj ⟨⟨x3, x4, x5, rfl⟩, sG⟩ ⟨rfl, hx⟩
    obtain ⟨e, he, de⟩ := dpa_get hus hx
    rw [pys_eq, List.getElem?_map] at he
    cases hb : b[j]? with
    | none => rw [hb] at he; cases he
    | some s' =>
    rw [hb] at he
    cases he
    have hgs := goods_mem hg s' (List.mem_of_getElem? hb)
    have hok := good_ok hgs
    have hspl := pl_mem (List.mem_of_getElem? hb)
    walk_at "st"
    refine ⟨_, s', rfl, dp_mono sG de, hok, fun G1 B bs s1 hB hB0 hbs => ?_⟩
    refine ⟨B, rfl, ⟨bs, .inl (.inl hB)⟩, fun D hD => ?_⟩
    refine lc_it (walk_list (xs := bs)) (fun i G2 => Same G1 G2 ∧ G2 D = some (.lst (((s'.blks.take i).map fun b => (Sm.cnts q b : Int)).map V.int))) ⟨Same.new hD, upd_same⟩ (fun i G2 _ h => .inl (.inl (h.1 _ _ hB))) ?_ ?_
    · rintro i y G2 G3 hi ⟨s2, g2⟩ ⟨rfl, hy⟩
      obtain ⟨e, he, de2⟩ := dpa_get hbs hy
      rw [List.getElem?_map] at he
      cases hb2 : s'.blks[i]? with
      | none => rw [hb2] at he; cases he
      | some b2 =>
      rw [hb2] at he
      cases he
      walk_at "st"
      refine ⟨rfl, ?_⟩
      walk_at "st"
      refine i_ite rfl ?_
      walk_at "st"
      have := good_deep hgs
      have hm := List.mem_of_getElem? hb2
      refine ⟨n - 1, by omega, y, b2, q, d + 1, rfl, dp_mono s2 de2, by omega, blks_good hgs b2 hm, by have := blks_pl hok b2 hm; omega, fun G4 s3 => ?_⟩
      refine ⟨_, s3 _ _ g2, ?_, Same.mut (Same.trans s2 s3) hD, ?_⟩
      · rw [List.length_map, List.length_map, List.length_take]
        have : bs.length = s'.blks.length := by rw [dpa_len hbs, List.length_map]
        have : s'.blks.length ≤ 2 := by cases s' <;> simp [Sm.blks]
        exact szl (by omega)
      · rw [upd_same, take_next hb2, List.map_append, List.map_append]; rfl
    · rintro G2 ⟨s2, g2⟩
      have hl : bs.length = s'.blks.length := by rw [dpa_len hbs, List.length_map]
      rw [hl, List.take_length] at g2
      refine ⟨D, _, rfl, .inl (.inl g2), ?_⟩
      walk_at "st"
      have sG2 : Same H G2 := Same.trans sG (Same.trans s1 s2)
      refine ⟨_, s', q, rfl, dp_mono sG2 de, fun G3 s3 => ?_⟩
      obtain ⟨ps, xs, rfl, hps⟩ := sm_head (dp_mono (Same.trans sG2 s3) de)
      walk_at "st"
      refine i_ix0 hps ?_
      walk_at "st"
      have e1 : (s'.blks.map fun b => (Sm.cnts q b : Int)).sum = (((s'.blks.map (Sm.cnts q)).sum : Nat) : Int) := by rw [← sum_ints, List.map_map]; rfl
      have fin : ∀ z : Int, z = (s'.mul : Nat) → ((Sm.cnts q (b.take j) : Nat) : Int) + ((Sm.own q s' : Nat) + (s'.blks.map fun b => (Sm.cnts q b : Int)).sum * z) = (Sm.cnts q (b.take (j + 1)) : Nat) := by
        rintro z rfl
        rw [take_next hb, cnts_app, e1]
        have e2 : Sm.cnts q [s'] = s'.cnt q := by simp [Sm.cnts]
        rw [e2, cnt_eq q s' hok, Int.natCast_add, Int.natCast_add, Int.natCast_mul]
      by_cases hr : ∃ m b2, s' = .rep m b2
      · obtain ⟨m, b2, rfl⟩ := hr
        refine i_ite rfl ?_
        walk_at "st"
        obtain ⟨p2, u1, u2, u3, e, hs2, h1, h2, h3⟩ := dp_t3 (dp_mono (Same.trans sG2 s3) de)
        cases e
        obtain rfl := dp_int h2
        have hm : 1 ≤ m ∧ m ≤ 8 := of_decide_eq_true hok
        refine i_ix1 hs2 ?_
        refine i_I (.inr (by omega)) ?_
        walk_at "st"
        rw [← fin m (by show m = ((m.toNat : Nat) : Int); omega)]
        exact ⟨⟨_, _, _, rfl⟩, Same.trans sG2 s3⟩
      · have e3 : s'.mul = 1 := by cases s' <;> first | rfl | exact absurd ⟨_, _, rfl⟩ hr
        have e4 : decide (V.str s'.wd = .str "repeat") = false := by
          cases s' with
          | rep m b2 => exact absurd ⟨_, _, rfl⟩ hr
          | cho h _ _ => exact (hand_no h).2.2.2
          | half h _ => exact (hand_no h).2.2.2
          | set _ _ => exact rep_no.1
          | pay _ => exact rep_no.2.1
          | stop => exact rep_no.2.2.1
          | ift _ _ _ => exact rep_no.2.2.2
        rw [e4]
        refine i_itf rfl ?_
        walk_at "st"
        refine i_I (.inr (by omega)) ?_
        walk_at "st"
        rw [← fin 1 (by rw [e3]; rfl)]
        exact ⟨⟨_, _, _, rfl⟩, Same.trans sG2 s3⟩
  · rintro τ G ⟨⟨x3, x4, x5, rfl⟩, sG⟩
    walk_at "st"
    rw [hul, List.take_length]
    exact k _ sG
theorem ok_counted (T : Txt w K mg) : ∀ n : Nat, Cl P w K mg base CX0 (n + 3) "counted" ["block", "sort"] (sp_counted (K := K) n)
| 0 => by
  refine ok_counted0 T 0 ?_
  obtain ⟨fd, F⟩ := T.d_counted
  exact ⟨_, fd, T.g_counted, F.kp, (FunD.bindsN F (fun _ _ _ _ _ _ us hl => match us, hl with | [_, _], _ => rfl)), F.ok sc_counted (fun vs H Q E h => ((show False by obtain ⟨m, e, _⟩ := h; omega)).elim) (fun cdv A outer s H vs Q E hr h => ((show False by obtain ⟨m, e, _⟩ := h; omega)).elim)⟩
| n + 1 => by
  exact ok_counted0 T (n + 1) ((ok_counted T n).imp fun vs H Q E h => by obtain ⟨m', e, h⟩ := h; obtain rfl : n = m' := (by omega); exact h)
def sp_weight : Sp := fun vs H Q _ => ∃ (v : V) (b : List Sm), vs = [v] ∧ Dp K H v (bpy b) ∧ Sm.goods 0 b = true ∧ Sm.pls b ≤ 1000 ∧ ∀ (H' : Hp), Same H H' → Q (.int (Sm.cnts .weight b : Nat)) H'
theorem ok_weight (T : Txt w K mg) : Cl P w K mg base CX0 8 "weight" ["program"] (sp_weight (K := K)) := by
  have c_counted := ok_counted (P := P) (base := base) T 4
  obtain ⟨fd, F⟩ := T.d_weight
  refine ⟨_, fd, T.g_weight, F.kp, (FunD.bindsN F (fun _ _ _ _ _ _ us hl => match us, hl with | [_], _ => rfl)), F.ok sc_weight (fun vs H Q E h => ?len) (fun cdv A outer s H vs Q E hr h => ?run)⟩
  case len =>
    obtain ⟨v, b, rfl, _⟩ := h
    rfl
  refine ⟨_, PSs.nox (pss_one (ps_ret (pcl c_counted (hr.mono (by omega)) (pa_cons (pv 0) (pa_cons pe_str pa_nil))))), ?_⟩
  obtain ⟨v, b, rfl, hd, hg, hpl, k⟩ := h
  walk_at "st"
  exact ⟨v, b, .weight, 0, rfl, hd, rfl, hg, hpl, k⟩
def sp_perr : Sp := fun vs H Q _ => ∃ (v : V) (p : List Sm), vs = [v] ∧ Dp K H v (bpy p) ∧ Prog p ∧ ∀ (H' : Hp), Same H H' → Q .non H'
theorem ok_program_error (T : Txt w K mg) : Cl P w K mg base CX0 12 "program_error" ["value"] (sp_perr (K := K)) := by
  have c_counted := ok_counted (P := P) (base := base) T 4
  have c_weight := ok_weight (P := P) (base := base) T
  have c_order_error := ok_order_error (P := P) (base := base) T
  have c_rows_of := ok_rows_of (P := P) (base := base) T
  obtain ⟨fd, F⟩ := T.d_program_error
  obtain ⟨_, hc_MAX_PLACES⟩ := T.c_MAX_PLACES
  obtain ⟨_, hc_MAX_WEIGHT⟩ := T.c_MAX_WEIGHT
  obtain ⟨_, hc_MAX_CHOICES⟩ := T.c_MAX_CHOICES
  obtain ⟨_, hc_MAX_RESTS⟩ := T.c_MAX_RESTS
  obtain ⟨_, hc_MAX_COMPARINGS⟩ := T.c_MAX_COMPARINGS
  refine ⟨_, fd, T.g_program_error, F.kp, (FunD.bindsN F (fun _ _ _ _ _ _ us hl => match us, hl with | [_], _ => rfl)), F.ok sc_program_error (fun vs H Q E h => ?len) (fun cdv A outer s H vs Q E hr h => ?run)⟩
  case len =>
    obtain ⟨v, p, rfl, _⟩ := h
    rfl
  refine ⟨_, PSs.nox (pss_cons (ps_if (pt_not (pt_val (pe_callB call_isi (by rfl) T.f_isinstance (by decide +kernel) (pa_cons (pv 0) (pa_cons (pe_bltn (v := .ty "tuple") rfl T.f_tuple boot_tuple rfl) pa_nil))))) (pss_one (ps_ret (pe_tup (pa_cons pe_non (pa_cons pe_str pa_nil))))) pss_nil)
      (pss_cons (ps_set (i := 1) sc_program_error.nd rfl (by first | exact Or.inl rfl | exact Or.inr rfl) (pcl c_order_error (hr.mono (by omega)) (pa_cons (pv 0) pa_nil)))
      (pss_cons (ps_if (pt_cmpR op_notN1 (pv 1) pe_non (nomark _)) (pss_one (ps_ret (pv 1))) pss_nil)
      (pss_cons (ps_if (pt_cmpR op_gt (pe_callB call_lenX (by rfl) T.f_len (by decide +kernel) (pa_cons (pcl c_rows_of (hr.mono (by omega)) (pa_cons (pv 0) pa_nil)) pa_nil)) (pe_glob (v := .int 24) rfl hc_MAX_PLACES ⟨_, rfl⟩) (nomark _)) (pss_one (ps_ret (pe_tup (pa_cons pe_non (pa_cons pe_str pa_nil))))) pss_nil)
      (pss_cons (ps_if (pt_cmpR op_gt (pcl c_weight (hr.mono (by omega)) (pa_cons (pv 0) pa_nil)) (pe_glob (v := .int 30) rfl hc_MAX_WEIGHT ⟨_, rfl⟩) (nomark _)) (pss_one (ps_ret (pe_tup (pa_cons pe_non (pa_cons pe_str pa_nil))))) pss_nil)
      (pss_cons (ps_if (pt_cmpR op_gt (pcl c_counted (hr.mono (by omega)) (pa_cons (pv 0) (pa_cons pe_str pa_nil))) (pe_glob (v := .int 4) rfl hc_MAX_CHOICES ⟨_, rfl⟩) (nomark _)) (pss_one (ps_ret (pe_tup (pa_cons pe_non (pa_cons pe_str pa_nil))))) pss_nil)
      (pss_cons (ps_if (pt_cmpR op_gt (pcl c_counted (hr.mono (by omega)) (pa_cons (pv 0) (pa_cons pe_str pa_nil))) (pe_glob (v := .int 2) rfl hc_MAX_RESTS ⟨_, rfl⟩) (nomark _)) (pss_one (ps_ret (pe_tup (pa_cons pe_non (pa_cons pe_str pa_nil))))) pss_nil)
      (pss_one (ps_ret (pe_ifExp (pt_cmpR op_gt (pcl c_counted (hr.mono (by omega)) (pa_cons (pv 0) (pa_cons pe_str pa_nil))) (pe_glob (v := .int 2) rfl hc_MAX_COMPARINGS ⟨_, rfl⟩) (nomark _)) (pe_tup (pa_cons pe_non (pa_cons pe_str pa_nil))) pe_non)))))))))), ?_⟩
  obtain ⟨v, p, rfl, hd, g, k⟩ := h
  have hpl : Sm.pls p ≤ 1000 := by have := g.pl; omega
  obtain ⟨a, us, rfl, hs⟩ := dp_tupv hd
  walk_at "st"
  refine r_y (ty_tup hs) ?_
  walk_at "st"
  refine i_itf rfl ?_
  walk_at "st"
  refine ⟨_, p, rfl, hd, g.good, hpl, fun H1 s1 => ?_⟩
  walk_at "st"
  refine i_itf rfl ?_
  walk_at "st"
  refine ⟨_, p, rfl, dp_mono s1 hd, g.good, hpl, fun H2 l xs s2 hl hx => ?_⟩
  walk_at "st"
  refine i_lenL (.inl (.inl hl)) ?_
  walk_at "st"
  refine i_itf (decide_eq_false (by have := g.pl; omega)) ?_
  walk_at "st"
  have s3 := Same.trans s1 s2
  refine ⟨_, p, rfl, dp_mono s3 hd, g.good, hpl, fun H4 s4 => ?_⟩
  walk_at "st"
  refine i_itf (decide_eq_false (by have := g.wt; omega)) ?_
  walk_at "st"
  have s5 := Same.trans s3 s4
  refine ⟨_, p, .choice, 0, rfl, dp_mono s5 hd, rfl, g.good, hpl, fun H6 s6 => ?_⟩
  walk_at "st"
  refine i_itf (decide_eq_false (by have := g.ch; omega)) ?_
  walk_at "st"
  have s7 := Same.trans s5 s6
  refine ⟨_, p, .rest, 0, rfl, dp_mono s7 hd, rfl, g.good, hpl, fun H8 s8 => ?_⟩
  walk_at "st"
  refine i_itf (decide_eq_false (by have := g.re; omega)) ?_
  walk_at "st"
  have s9 := Same.trans s7 s8
  refine ⟨_, p, .less, 0, rfl, dp_mono s9 hd, rfl, g.good, hpl, fun HA sA => ?_⟩
  walk_at "st"
  refine i_itf (decide_eq_false (by have := g.le; omega)) ?_
  walk_at "st"
  exact k _ (Same.trans s9 sA)
end
end K04
/-! text R3 -/
set_option Elab.async false
set_option linter.all false
set_option maxRecDepth 100000
set_option maxHeartbeats 4000000
/-! The two written tables -/
namespace K04
open PySem PySem.Spec PyProof.Rows L2 TL
theorem miss_of {K : PySem.W.Frag} {P : Params} {a : Addr} {ks : List Str} {x : Str} (h : He.dicW K a = some (He.keysIn P ks)) (hx : x ∉ ks) : PySem.W.nsIn K a x = some none := by
  unfold He.dicW at h
  split at h
  · rename_i c es n sl e
    split at h
    · have h2 := Option.some.inj h
      have key : ∀ d ∈ es.toList, ∃ k t, k ∈ ks ∧ d.key = .str k t := fun d hd => by
        have m : He.keyOf d ∈ He.keysIn P ks := by rw [← h2]; exact List.mem_map_of_mem hd
        obtain ⟨k, hk, e2⟩ := List.mem_map.mp m
        unfold He.keyOf at e2
        split at e2
        · rename_i y t q
          have e3 := congrArg Prod.fst (Option.some.inj e2)
          have e3 : k = y := e3
          exact ⟨k, t, hk, by rw [q, e3]⟩
        · cases e2
      unfold PySem.W.nsIn
      rw [e]
      dsimp only
      have f1 : es.toList.find? (·.key.isStr x) = none := List.find?_eq_none.mpr fun d hd z => by
        obtain ⟨k, t, hk, e3⟩ := key d hd
        rw [e3] at z
        have z2 : (k == x) = true := z
        exact hx (eq_of_beq z2 ▸ hk)
      have f2 : es.toList.any (·.refKey) = false := List.any_eq_false.mpr fun d hd z => by
        obtain ⟨k, t, hk, e3⟩ := key d hd
        unfold DictEntry.refKey at z
        rw [e3] at z
        cases z
      rw [f1, f2]
      rfl
    · cases h
  · cases h
theorem opOf_inv {l : List Nat} {o : Op3} (h : opOf l = some o) : l = o.sign := by
  unfold opOf at h
  by_cases h1 : l = Op3.plus.sign
  · rw [if_pos h1] at h; cases h; exact h1
  · rw [if_neg h1] at h
    by_cases h2 : l = Op3.minus.sign
    · rw [if_pos h2] at h; cases h; exact h2
    · rw [if_neg h2] at h
      by_cases h3 : l = Op3.times.sign
      · rw [if_pos h3] at h; cases h; exact h3
      · rw [if_neg h3] at h; cases h
section
variable {K : PySem.W.Frag} {w : World} {mg : Str → Option Value}
theorem dic_of (T : Txt w K mg) : He.dicW K (He.ga K "WORDS") = some (He.keysIn w.params [" + ", " - ", " * "]) := by
  have e : tabs.map (fun t => He.dicW K (t.1 K)) = tabs.map (fun t => some (He.keysIn w.params t.2)) := congrArg (fun z : He.AlT => z.2) T.says
  have e2 := congrArg (fun l => l[1]?) e
  exact Option.some.inj e2
theorem sgn_of (T : Txt w K mg) (o : Op3) : KDct K w (He.ga K "SIGNS_texts") o.word (.str (mk o.sign)) := by
  obtain ⟨es, n, D⟩ := T.kd_SIGNS_texts
  have v := T.mores.2.2.2.2.1
  have f : ∀ q ∈ [(("plus" : Str), He.Dv.str " + "), ("minus", .str " - "), ("times", .str " * ")], ∃ u, PySem.W.nsIn K (He.ga K "SIGNS_texts") q.1 = some (some u) ∧ RelV (q.2.v K) u := fun q hq => He.valsB_ok v hq
  cases o with
  | plus =>
    obtain ⟨u, h1, h2⟩ := f _ (List.mem_cons_self)
    exact ⟨es, n, u, D.at_, D.lit, h1, by rw [show mk Op3.plus.sign = Str.ofString " + " by decide +kernel]; exact h2⟩
  | minus =>
    obtain ⟨u, h1, h2⟩ := f _ (List.mem_cons_of_mem _ List.mem_cons_self)
    exact ⟨es, n, u, D.at_, D.lit, h1, by rw [show mk Op3.minus.sign = Str.ofString " - " by decide +kernel]; exact h2⟩
  | times =>
    obtain ⟨u, h1, h2⟩ := f _ (List.mem_cons_of_mem _ (List.mem_cons_of_mem _ List.mem_cons_self))
    exact ⟨es, n, u, D.at_, D.lit, h1, by rw [show mk Op3.times.sign = Str.ofString " * " by decide +kernel]; exact h2⟩
/-- WORDS.get(x, "") -/
theorem wrd_of (T : Txt w K mg) (l : List Nat) : ∃ r, PySem.W.nsIn K (He.ga K "WORDS") (mk l) = some r ∧ ((∃ o u, opOf l = some o ∧ r = some u ∧ RelV (.str o.word) u) ∨ (opOf l = none ∧ r = none)) := by
  have v := T.mores.2.2.2.2.2.1
  have f : ∀ q ∈ [((" + " : Str), He.Dv.str "plus"), (" - ", .str "minus"), (" * ", .str "times")], ∃ u, PySem.W.nsIn K (He.ga K "WORDS") q.1 = some (some u) ∧ RelV (q.2.v K) u := fun q hq => He.valsB_ok v hq
  cases h : opOf l with
  | some o =>
    cases o with
    | plus =>
      have e : l = Op3.plus.sign := opOf_inv h
      obtain ⟨u, h1, h2⟩ := f _ (List.mem_cons_self)
      exact ⟨some u, by rw [e, show mk Op3.plus.sign = Str.ofString " + " by decide +kernel]; exact h1, .inl ⟨_, u, rfl, rfl, h2⟩⟩
    | minus =>
      have e : l = Op3.minus.sign := opOf_inv h
      obtain ⟨u, h1, h2⟩ := f _ (List.mem_cons_of_mem _ List.mem_cons_self)
      exact ⟨some u, by rw [e, show mk Op3.minus.sign = Str.ofString " - " by decide +kernel]; exact h1, .inl ⟨_, u, rfl, rfl, h2⟩⟩
    | times =>
      have e : l = Op3.times.sign := opOf_inv h
      obtain ⟨u, h1, h2⟩ := f _ (List.mem_cons_of_mem _ (List.mem_cons_of_mem _ List.mem_cons_self))
      exact ⟨some u, by rw [e, show mk Op3.times.sign = Str.ofString " * " by decide +kernel]; exact h1, .inl ⟨_, u, rfl, rfl, h2⟩⟩
  | none =>
    refine ⟨none, miss_of (dic_of T) (fun hx => ?_), .inr ⟨rfl, rfl⟩⟩
    have e1 : ∀ s : Str, mk l = s → l = tl s := fun s e => by rw [← e, tl_mk']
    unfold opOf at h
    split at h
    · cases h
    · rename_i n1
      split at h
      · cases h
      · rename_i n2
        split at h
        · cases h
        · rename_i n3
          rcases List.mem_cons.mp hx with z | z
          · exact n1 ((e1 _ z).trans (by decide +kernel))
          · rcases List.mem_cons.mp z with z | z
            · exact n2 ((e1 _ z).trans (by decide +kernel))
            · rcases List.mem_cons.mp z with z | z
              · exact n3 ((e1 _ z).trans (by decide +kernel))
              · cases z
end
end K04
/-! text R4 -/
set_option Elab.async false
set_option linter.all false
set_option maxRecDepth 100000
set_option maxHeartbeats 4000000
/-! Steps on texts -/
namespace K04
open PySem PySem.Spec PyProof.Rows L2 TL
theorem len_add (a b : Str) : (a ++ b).length = a.length + b.length := by rw [len_tl, tl_append, List.length_append, ← len_tl, ← len_tl]
theorem kc (s : String) : Str.ofString s = mk (cs s) := (mk_cs s).symm
section
variable {K : PySem.W.Frag} {w : World} {H : Hp} {Q : VK}
theorem i_addE {x y : Str} {p q : List Nat} (hx : x = mk p) (hy : y = mk q) (h : p.length + q.length ≤ 100000) (k : Q (.str (mk (p ++ q))) H) : rAddStr (.str x) (.str y) H Q := by
  subst hx; subst hy
  refine i_addS (by rw [len_mk, len_mk]; exact h) ?_
  rw [mk_app]; exact k
theorem i_ixD {p : Addr} {z : Str} {v : V} (kd : KDct K w p z v) (k : Q v H) : rIxD K w (.ref p) (.str z) H Q := ⟨p, z, v, rfl, rfl, kd, k⟩
theorem mk_eq {a b : List Nat} (h : a = b) : mk a = mk b := by rw [h]
/-- as lists of signs: == -/
theorem dec_mk (a b : List Nat) : decide (V.str (mk a) = .str (mk b)) = decide (a = b) := by
  by_cases h : a = b
  · subst h; simp
  · rw [decide_eq_false h, decide_eq_false (fun z => h (mk_inj (V.str.inj z)))]
theorem dec_kc (a : List Nat) (s : String) : decide (V.str (mk a) = .str (Str.ofString s)) = decide (a = cs s) := by rw [kc, dec_mk]
theorem dec_tl (x : Str) (s : String) : decide (V.str x = .str (Str.ofString s)) = decide (tl x = cs s) := by rw [← dec_kc, mk_tl']
end
/-! ### slices as lists of signs -/
theorem six_lo (n k : Nat) : HT.sIx n 0 (some (k : Int)) = min k n := HT.sIx_nat n 0 k
theorem six_hi (n k : Nat) : HT.sIx n n (some (k : Int)) = min k n := HT.sIx_nat n n k
theorem drop_min {α : Type} (l : List α) (k : Nat) : l.drop (min k l.length) = l.drop k := by
  by_cases h : k ≤ l.length
  · rw [Nat.min_eq_left h]
  · rw [Nat.min_eq_right (by omega), List.drop_length, List.drop_of_length_le (by omega)]
theorem cutS_from (z : Str) (k : Nat) : cutS z (some (k : Int)) none = mk ((tl z).drop k) := by
  unfold cutS
  rw [six_lo, HT.sIx_none]
  refine mk_eq ?_
  show List.take _ ((tl z).drop _) = _
  rw [len_tl, drop_min, List.take_of_length_le]
  rw [List.length_drop]
  omega
theorem cutS_at (z : Str) (i j : Nat) (h : i ≤ j) : cutS z (some (i : Int)) (some (j : Int)) = mk (((tl z).drop i).take (j - i)) := by
  unfold cutS
  rw [six_lo, six_hi]
  refine mk_eq ?_
  show List.take _ ((tl z).drop _) = _
  rw [len_tl, drop_min]
  by_cases h1 : i ≤ (tl z).length
  · rw [Nat.min_eq_left h1]
    by_cases h2 : j ≤ (tl z).length
    · rw [Nat.min_eq_left h2]
    · rw [Nat.min_eq_right (by omega), List.take_of_length_le (by rw [List.length_drop]; omega), List.take_of_length_le (by rw [List.length_drop]; omega)]
  · rw [List.drop_of_length_le (by omega), List.take_nil, List.take_nil]
end K04
/-! text R5 -/
set_option Elab.async false
set_option linter.all false
set_option maxRecDepth 100000
set_option maxHeartbeats 4000000
/-! Lines joined, split -/
namespace K04
open PySem PySem.Spec PyProof.Rows L2 TL
def joinT (ls : List (List Nat)) : Str := Txt.join "\n" (ls.map mk)
theorem tl_nl : tl "\n" = [10] := by rw [tl_cs]; decide +kernel
theorem tl_joinT (ls : List (List Nat)) : tl (joinT ls) = joinL [10] ls := by
  unfold joinT
  rw [join_eq, tl_join, tl_nl, List.map_map]
  congr 1
  rw [show (tl ∘ mk) = id from funext fun l => tl_mk' l, List.map_id]
theorem split_joinT {ls : List (List Nat)} (hne : ls ≠ []) (h : ∀ l ∈ ls, NoNl l) : Txt.split (joinT ls) "\n" = ls.map mk := by
  unfold joinT
  refine split_join (s := 10) (S := []) tl_nl (by decide +kernel) (by simpa using hne) ?_
  intro p hp
  obtain ⟨l, hl, rfl⟩ := List.mem_map.mp hp
  rw [tl_mk']
  exact h l hl
theorem sum_le {k : Nat} : ∀ {ls : List (List Nat)}, (∀ l ∈ ls, l.length ≤ k) → ((ls.map mk).map (·.length)).sum ≤ k * ls.length
  | [], _ => by simp
  | l :: r, h => by
    have h1 := h l List.mem_cons_self
    have h2 := sum_le fun x hx => h x (List.mem_cons_of_mem _ hx)
    simp only [List.map_cons, List.sum_cons, List.length_cons, len_mk]
    rw [Nat.mul_succ]; omega
theorem joinL_len {k : Nat} : ∀ {ls : List (List Nat)}, (∀ l ∈ ls, l.length ≤ k) → (joinL [10] ls).length ≤ (k + 1) * ls.length
  | [], _ => by simp [joinL]
  | [l], h => by
    have h1 := h l List.mem_cons_self
    show l.length ≤ _
    simp; omega
  | l :: m :: r, h => by
    have h1 := h l List.mem_cons_self
    have h2 := joinL_len fun x hx => h x (List.mem_cons_of_mem _ hx)
    show (l ++ ([10] ++ joinL [10] (m :: r))).length ≤ _
    simp only [List.length_append, List.length_cons, List.length_nil] at h2 ⊢
    rw [Nat.mul_succ]; omega
theorem joinT_len {k : Nat} {ls : List (List Nat)} (h : ∀ l ∈ ls, l.length ≤ k) : (joinT ls).length ≤ (k + 1) * ls.length := by
  rw [len_tl, tl_joinT]; exact joinL_len h
/-! ### text methods, their answers named -/
def rSplit : V → List V → Hp → VK → Prop := fun x xs H Q => ∃ a b, x = .str a ∧ xs = [.str b] ∧ (b.length == 0) = false ∧ a.length + 2 ≤ sizeLine ∧ rNewStrs (Txt.split a b) H Q
def rPart : V → List V → Hp → VK → Prop := fun x xs H Q => ∃ a b, x = .str a ∧ xs = [.str b] ∧ (b.length == 0) = false ∧ a.length ≤ sizeLine ∧
  ∀ p, H p = none → Q (.ref p) (upd H p (.tup [.str (Txt.partition a b).1, .str (Txt.partition a b).2.1, .str (Txt.partition a b).2.2]))
def rJoin (K : PySem.W.Frag) : V → List V → Hp → VK → Prop := fun x xs H Q => ∃ a p, ∃ ys : List Str, x = .str a ∧ xs = [.ref p] ∧ (SqL K H p (ys.map V.str) ∨ SqT K H p (ys.map V.str)) ∧
  (ys.map (·.length)).sum + ys.length * a.length ≤ 16777216 ∧ Q (.str (Txt.join a ys)) H
def rStarts : V → List V → Hp → VK → Prop := fun x xs H Q => ∃ a b, x = .str a ∧ xs = [.str b] ∧ Q (.bl (Txt.startswith a b)) H
def rStripC : V → List V → Hp → VK → Prop := fun x xs H Q => ∃ a b, x = .str a ∧ xs = [.str b] ∧ a.length ≤ sizeLine ∧ Q (.str (Txt.stripChars a b)) H
def rLstripC : V → List V → Hp → VK → Prop := fun x xs H Q => ∃ a b, x = .str a ∧ xs = [.str b] ∧ a.length ≤ sizeLine ∧ Q (.str (Txt.lstripChars a b)) H
theorem i_split {H : Hp} {Q : VK} {a b : Str} (hb : (b.length == 0) = false) (hl : a.length ≤ 99999) (k : ∀ p, H p = none → Q (.ref p) (upd H p (.lst ((Txt.split a b).map V.str)))) : rSplit (.str a) [.str b] H Q := ⟨a, b, rfl, rfl, hb, by rw [sizeLine_eq]; omega, k⟩
theorem i_join {K : PySem.W.Frag} {H : Hp} {Q : VK} {a : Str} {p : Addr} {ys : List Str} (h : SqL K H p (ys.map V.str)) (hl : (ys.map (·.length)).sum + ys.length * a.length ≤ 16777216) (k : Q (.str (Txt.join a ys)) H) : rJoin K (.str a) [.ref p] H Q := ⟨a, p, ys, rfl, rfl, .inl h, hl, k⟩
/-- a program's lines -/
def progL (p : List Sm) : List (List Nat) := cs "program" :: Sm.liness 0 p
theorem progL_ok {p : List Sm} (h : Prog p) : (∀ l ∈ progL p, LineOk l) ∧ (progL p).length ≤ 97 := by
  refine ⟨fun l hl => ?_, ?_⟩
  · rcases List.mem_cons.mp hl with rfl | hl
    · exact ⟨by decide +kernel, by decide +kernel⟩
    · exact liness_ok p 0 h.good l hl
  · have := liness_cnt p 0
    have := h.pl
    show (Sm.liness 0 p).length + 1 ≤ 97
    omega
end K04
/-! text S1 -/
set_option Elab.async false
set_option linter.all false
set_option maxRecDepth 100000
set_option maxHeartbeats 4000000
/-! Text methods as functions on lists of signs -/
namespace K04
open PySem PySem.Spec PyProof.Rows L2 TL
theorem starts_pre (x y : Str) (hy : tl y ≠ []) : Txt.startswith x y = pre (tl y) (tl x) := by
  have h := at_iff (x := x) (y := y) hy 0
  have e : Txt.startswith x y = true ↔ PySem.StrLaws.At x y x.length 0 := by
    unfold Txt.startswith PySem.StrLaws.At
    rw [Bool.and_eq_true, decide_eq_true_eq]
  rw [List.drop_zero] at h
  cases h1 : Txt.startswith x y with
  | true => exact (h.mp (e.mp h1)).symm
  | false =>
    cases h2 : pre (tl y) (tl x) with
    | false => rfl
    | true => rw [e.mpr (h.mpr h2)] at h1; cases h1
theorem starts_mk (l : List Nat) (s : String) (hs : cs s ≠ []) : Txt.startswith (mk l) (Str.ofString s) = decide (l.take (cs s).length = cs s) := by
  rw [starts_pre _ _ (by rw [tl_cs]; exact hs), tl_cs, tl_mk']
  unfold pre
  rw [Bool.eq_iff_iff]; simp
theorem blank1 : tl " " = [32] := by rw [tl_cs]; decide +kernel
theorem goes_blank : (fun c => Array.contains (Str.cps " ") c) = (fun c : Nat => c == 32) := by
  funext c
  have e : (Str.cps " ") = #[32] := by decide +kernel
  rw [e, Bool.eq_iff_iff]
  simp
theorem lstrip_mk (l : List Nat) : Txt.lstripChars (mk l) " " = mk (lst l) := by
  refine ext_tl ?_
  unfold Txt.lstripChars
  rw [PyProof.Rows.stripBy_eq, tl_strSub, tl_mk']
  have e : PySem.stripLo (Array.contains (Str.cps " ")) true (mk l) = (l.takeWhile (· == 32)).length := by
    show (List.takeWhile _ (mk l).cps.toList).length = _
    rw [show (Array.contains (Str.cps " ")) = (fun c : Nat => c == 32) from goes_blank]
  rw [e, show PySem.stripHi (Array.contains (Str.cps " ")) false (mk l) (l.takeWhile (· == 32)).length = (mk l).length from rfl, tl_mk', len_mk]
  unfold lst
  have e2 : l.drop (l.takeWhile (· == 32)).length = l.dropWhile (· == 32) := by
    conv => lhs; rw [← List.takeWhile_append_dropWhile (p := (· == 32)) (l := l)]
    rw [List.drop_left' (by rw [List.takeWhile_append_dropWhile])]
  rw [e2, List.take_of_length_le]
  have := congrArg List.length (List.takeWhile_append_dropWhile (p := (· == 32)) (l := l))
  rw [List.length_append] at this
  omega
/-! ### parts at a blank -/
theorem pre1 (c : Nat) (r : List Nat) : pre [32] (c :: r) = (c == 32) := by
  unfold pre
  rw [Bool.eq_iff_iff]; simp
theorem bef_nil : bef [] = [] := rfl
theorem bef_hit (r : List Nat) : bef (32 :: r) = [] ∧ aft (32 :: r) = r := by constructor <;> simp [bef, aft]
theorem bef_miss {c : Nat} {r : List Nat} (h : (c == 32) = false) : bef (c :: r) = c :: bef r ∧ aft (c :: r) = aft r := by
  have h2 : (c != 32) = true := by simpa using h
  constructor <;> simp [bef, aft, List.takeWhile_cons, List.dropWhile_cons, h2]
theorem par_blank : ∀ (l acc : List Nat), par [32] acc l = if 32 ∈ l then some (acc ++ bef l, aft l) else none
  | [], acc => rfl
  | c :: r, acc => by
    cases h : c == 32 with
    | true =>
      obtain rfl : c = 32 := eq_of_beq h
      rw [par_hit (by rw [pre1]; rfl), if_pos List.mem_cons_self, (bef_hit r).1, (bef_hit r).2, List.append_nil]; rfl
    | false =>
      have ne : c ≠ 32 := fun z => by rw [z] at h; cases h
      rw [par_miss (by rw [pre1]; exact h), par_blank r, (bef_miss h).1, (bef_miss h).2]
      by_cases hm : 32 ∈ r
      · rw [if_pos hm, if_pos (List.mem_cons_of_mem _ hm)]; simp
      · rw [if_neg hm, if_neg (fun z => (List.mem_cons.mp z).elim (fun y => ne y.symm) hm)]
theorem bef_none : ∀ {l : List Nat}, 32 ∉ l → bef l = l ∧ aft l = []
  | [], _ => ⟨rfl, rfl⟩
  | c :: r, h => by
    have h1 : (c == 32) = false := by
      cases z : c == 32 with
      | false => rfl
      | true => exact absurd (by rw [eq_of_beq z]; exact List.mem_cons_self) h
    obtain ⟨a, b⟩ := bef_none (l := r) fun z => h (List.mem_cons_of_mem _ z)
    rw [(bef_miss h1).1, (bef_miss h1).2, a, b]; exact ⟨rfl, rfl⟩
theorem part_mk (l : List Nat) : ∃ z, Txt.partition (mk l) " " = (mk (bef l), z, mk (aft l)) := by
  rw [partition_par _ _ (by rw [blank1]; simp), blank1, tl_mk', par_blank]
  by_cases h : 32 ∈ l
  · rw [if_pos h]; exact ⟨_, rfl⟩
  · rw [if_neg h, (bef_none h).1, (bef_none h).2]; exact ⟨_, rfl⟩
theorem spl_blank : ∀ (l acc : List Nat), ∃ r, spl [32] 0 acc l = (acc ++ bef l) :: r
  | [], acc => ⟨[], by rw [spl_nil, bef_nil, List.append_nil]⟩
  | c :: r, acc => by
    cases h : c == 32 with
    | true =>
      obtain rfl : c = 32 := eq_of_beq h
      rw [spl_hit (by rw [pre1]; rfl), (bef_hit r).1, List.append_nil]
      exact ⟨_, rfl⟩
    | false =>
      rw [spl_miss (by rw [pre1]; exact h), (bef_miss h).1]
      obtain ⟨q, hq⟩ := spl_blank r (acc ++ [c])
      exact ⟨q, by rw [hq]; simp⟩
theorem split_head (l : List Nat) : ∃ r, Txt.split (mk l) " " = mk (bef l) :: r := by
  have h := split_spl (mk l) " " (by rw [blank1]; simp) (kind_ok (by decide +kernel))
  rw [blank1, tl_mk'] at h
  obtain ⟨r, hr⟩ := spl_blank l []
  rw [hr, List.nil_append] at h
  cases e : Txt.split (mk l) " " with
  | nil => rw [e] at h; cases h
  | cons a b =>
    rw [e] at h
    injection h with h1 h2
    exact ⟨b, by rw [← h1, mk_tl']⟩
theorem i_isT {K : PySem.W.Frag} {H : Hp} {Q : VK} {x : V} {p : Addr} {xs : List V} (h : SqT K H p xs) (fx : flatV x = true) (fs : xs.all flatV = true) (k : Q (.bl (inV x xs)) H) : rIn K false x (.ref p) H Q := ⟨p, xs, rfl, .inr h, fx, fs, k⟩
theorem i_isL {K : PySem.W.Frag} {H : Hp} {Q : VK} {x : V} {p : Addr} {xs : List V} (h : SqL K H p xs) (fx : flatV x = true) (fs : xs.all flatV = true) (k : Q (.bl (inV x xs)) H) : rIn K false x (.ref p) H Q := ⟨p, xs, rfl, .inl h, fx, fs, k⟩
theorem i_partn {H : Hp} {Q : VK} {l : List Nat} (hl : l.length ≤ 90000) (k : ∀ z p, H p = none → Q (.ref p) (upd H p (.tup [.str (mk (bef l)), .str z, .str (mk (aft l))]))) : rPart (.str (mk l)) [.str " "] H Q := by
  obtain ⟨z, hz⟩ := part_mk l
  refine ⟨mk l, " ", rfl, rfl, by decide +kernel, sz (by rw [len_mk]; omega), fun p hp => ?_⟩
  rw [hz]
  exact k z p hp
theorem i_starts {H : Hp} {Q : VK} {l : List Nat} {s : String} (hs : cs s ≠ []) (k : Q (.bl (decide (l.take (cs s).length = cs s))) H) : rStarts (.str (mk l)) [.str (Str.ofString s)] H Q := by
  refine ⟨mk l, _, rfl, rfl, ?_⟩
  rw [starts_mk l s hs]
  exact k
theorem i_lstrip {H : Hp} {Q : VK} {l : List Nat} (hl : l.length ≤ 90000) (k : Q (.str (mk (lst l))) H) : rLstripC (.str (mk l)) [.str " "] H Q := ⟨mk l, _, rfl, rfl, sz (by rw [len_mk]; omega), by rw [lstrip_mk]; exact k⟩
/-- strip(" "): its first word -/
theorem tw_append {p : Nat → Bool} {a b : List Nat} (h : b.takeWhile p = []) : (a ++ b).takeWhile p = a.takeWhile p := by
  rw [List.takeWhile_append]
  split
  · rename_i e
    rw [h, List.append_nil]
    have := List.takeWhile_append_dropWhile (p := p) (l := a)
    have e2 := congrArg List.length this
    rw [List.length_append] at e2
    have e3 : a.dropWhile p = [] := List.length_eq_zero_iff.mp (by omega)
    rw [e3, List.append_nil] at this
    exact this.symm
  · rfl
theorem mem_tw {p : Nat → Bool} {c : Nat} : ∀ {l : List Nat}, c ∈ l.takeWhile p → p c = true
  | [], h => by cases h
  | a :: r, h => by
    rw [List.takeWhile_cons] at h
    split at h
    · rename_i pa
      rcases List.mem_cons.mp h with rfl | h
      · exact pa
      · exact mem_tw h
    · cases h
theorem blanks_bef : ∀ {b : List Nat}, (∀ c ∈ b, c = 32) → b.takeWhile (· != 32) = []
  | [], _ => rfl
  | c :: r, h => by rw [List.takeWhile_cons, h c List.mem_cons_self]; rfl
theorem strip_mk (l : List Nat) : ∃ m, Txt.stripChars (mk l) " " = mk m ∧ bef m = bef (lst l) ∧ m.length ≤ l.length := by
  refine ⟨(lst l).reverse.dropWhile (· == 32) |>.reverse, ?_, ?_, ?_⟩
  · refine ext_tl ?_
    unfold Txt.stripChars
    rw [PyProof.Rows.stripBy_eq, tl_strSub, tl_mk']
    have e : PySem.stripLo (Array.contains (Str.cps " ")) true (mk l) = (l.takeWhile (· == 32)).length := by
      show (List.takeWhile _ (mk l).cps.toList).length = _
      rw [show (Array.contains (Str.cps " ")) = (fun c : Nat => c == 32) from goes_blank]
    have e2 : l.drop (l.takeWhile (· == 32)).length = lst l := by
      conv => lhs; rw [← List.takeWhile_append_dropWhile (p := (· == 32)) (l := l)]
      rw [List.drop_left' (by rw [List.takeWhile_append_dropWhile])]; rfl
    have e3 : PySem.stripHi (Array.contains (Str.cps " ")) true (mk l) (l.takeWhile (· == 32)).length = l.length - ((lst l).reverse.takeWhile (· == 32)).length := by
      show (mk l).length - ((List.drop _ (mk l).cps.toList).reverse.takeWhile _).length = _
      rw [show (Array.contains (Str.cps " ")) = (fun c : Nat => c == 32) from goes_blank, len_mk, ← e2]
    rw [e, e3, e2, tl_mk']
    have e4 := congrArg List.length (List.takeWhile_append_dropWhile (p := (· == 32)) (l := (lst l).reverse))
    have e5 := congrArg List.length (List.takeWhile_append_dropWhile (p := (· == 32)) (l := l))
    rw [List.length_append, List.length_reverse] at e4
    rw [List.length_append] at e5
    have e6 : (l.dropWhile (· == 32)).length = (lst l).length := rfl
    have e7 : (lst l) = ((lst l).reverse.dropWhile (· == 32)).reverse ++ ((lst l).reverse.takeWhile (· == 32)).reverse := by
      rw [← List.reverse_append, List.takeWhile_append_dropWhile, List.reverse_reverse]
    refine (congrArg (List.take _) e7).trans ?_
    rw [List.take_append_of_le_length (by rw [List.length_reverse]; omega), List.take_of_length_le (by rw [List.length_reverse]; omega)]
  · have e7 : (lst l) = ((lst l).reverse.dropWhile (· == 32)).reverse ++ ((lst l).reverse.takeWhile (· == 32)).reverse := by
      rw [← List.reverse_append, List.takeWhile_append_dropWhile, List.reverse_reverse]
    conv => rhs; rw [e7]
    unfold bef
    rw [tw_append (blanks_bef fun c hc => ?_)]
    exact eq_of_beq (mem_tw (p := fun x => x == 32) (l := (lst l).reverse) (List.mem_reverse.mp hc))
  · rw [List.length_reverse]
    have e4 := congrArg List.length (List.takeWhile_append_dropWhile (p := (· == 32)) (l := (lst l).reverse))
    have e5 := congrArg List.length (List.takeWhile_append_dropWhile (p := (· == 32)) (l := l))
    rw [List.length_append, List.length_reverse] at e4
    rw [List.length_append] at e5
    have e6 : (l.dropWhile (· == 32)).length = (lst l).length := rfl
    omega
end K04
/-! text C1 -/
set_option Elab.async false
set_option linter.all false
set_option maxRecDepth 100000
set_option maxHeartbeats 4000000
namespace K04
open PySem PySem.Spec PyProof.Rows L2 TL
local macro_rules
  | `(tactic| walk_at "st") => `(tactic| repeat (with_reducible first
    | refine i_seq ?_ | refine i_ret ?_ | refine i_asg ?_ | refine i_name ?_ | refine i_ifs ?_ | refine i_test ?_ | refine i_B ?_ | refine i_bl ?_ | refine i_var (by with_unfolding_all rfl) ?_ | refine i_c ?_
    | refine i_op ?_ | refine i_un ?_ | refine i_cb ?_ | refine i_cons ?_ | refine i_nil ?_ | refine i_call ?_ | refine i_and ?_ | refine i_or ?_ | refine i_not ?_ | refine i_andV ?_ | refine i_orV ?_ | refine i_notV ?_ | refine i_if ?_
    | refine i_tup ?_ | refine i_lst ?_ | refine i_sl ?_ | refine i_nopart ?_ | refine i_part ?_ | refine i_int ?_ | refine i_chain ?_ | refine i_I0 ?_ | refine i_par ?_ | refine i_two ?_ | refine i_bm ?_ | refine i_bm0 ?_ | refine i_m1 ?_ | refine i_tyS ?_ | refine i_str ?_
    | refine i_for ?_ | refine i_iTup ?_ | refine i_iList ?_ | refine i_iStr ?_ | refine i_iRng1 ?_ | refine i_iRng2 ?_ | refine i_iEnum ?_ | refine i_lc ?_ | refine i_yes ?_ | refine i_revL ?_ | refine i_fld ?_ | refine i_sfld ?_ | refine i_meth ?_ | refine i_make ?_ | refine i_isN ?_ | refine i_notN ?_ | refine i_intB ?_ | refine i_intI ?_
    | refine i_next ?_ | refine i_drop ?_ | refine i_retN ?_ | refine i_gsub ?_ | refine i_ipI ?_ | refine i_aug (by with_unfolding_all rfl) ?_
    | refine i_eq (by with_unfolding_all rfl) ?_ | refine i_ne (by with_unfolding_all rfl) ?_))
abbrev N_expression_text : List Str := ["expression", "word", "one", "other"]
theorem sc_expression_text : FnScope N_expression_text ["expression"] (defScope s_expression_text) := ⟨rfl, rfl, rfl, by decide +kernel, rfl, by decide +kernel, by decide +kernel⟩
abbrev N_test_text : List Str := ["test"]
theorem sc_test_text : FnScope N_test_text ["test"] (defScope s_test_text) := ⟨rfl, rfl, rfl, by decide +kernel, rfl, by decide +kernel, by decide +kernel⟩
abbrev N_line_text : List Str := ["statement", "word"]
theorem sc_line_text : FnScope N_line_text ["statement"] (defScope s_line_text) := ⟨rfl, rfl, rfl, by decide +kernel, rfl, by decide +kernel, by decide +kernel⟩
section
variable {P : Program} {w : World} {K : PySem.W.Frag} {mg : Str → Option Value} {base : Heap}
def sp_ext (n : Nat) : Sp := fun vs H Q _ => ∃ (v : V) (e : Ex), vs = [v] ∧ Dp K H v e.py ∧ e.ok n = true ∧ n ≤ 3 ∧ Q (.str (mk (exL e))) H
theorem small_log {i : Int} (h1 : -99 ≤ i) (h2 : i ≤ 99) : i.natAbs.log2 < 1920 := Nat.lt_of_le_of_lt (Nat.log2_le_self _) (by omega)
theorem exL_num (i : Int) : (Str.ofString (toString i)) = mk (exL (.num i)) := kc _
theorem len_le (n : Nat) (e : Ex) (h : e.ok n = true) (hn : n ≤ 3) : (exL e).length ≤ 99 := by
  have := exL_len e n h
  have : 2 ^ n ≤ 2 ^ 3 := Nat.pow_le_pow_right (by omega) hn
  omega
theorem bin_ok {o : Op3} {a b : Ex} {n : Nat} (h : Ex.ok (n + 1) (.bin o a b) = true) : b.ok n = true ∧ ((o ≠ .times ∧ a.ok n = true) ∨ ∃ f, o = .times ∧ a = .num f ∧ -9 ≤ f ∧ f ≤ 9) := by
  refine ⟨by cases o <;> cases a <;> simp [Ex.ok] at h <;> exact h.2, ?_⟩
  by_cases ht : o = .times
  · subst ht
    cases a with
    | num f => exact .inr ⟨f, rfl, rfl, by simp [Ex.ok] at h; omega, by simp [Ex.ok] at h; omega⟩
    | _ => simp [Ex.ok] at h
  · exact .inl ⟨ht, by cases o <;> cases a <;> simp [Ex.ok] at h ht <;> exact h.1⟩
theorem num_ok (n : Nat) {i : Int} (h1 : -99 ≤ i) (h2 : i ≤ 99) : Ex.ok (n + 1) (.num i) = true := decide_eq_true ⟨h1, h2⟩
theorem ok_ext0 (T : Txt w K mg) (n : Nat) (c_expression_text : Cl P w K mg base CX0 (n + 1) "expression_text" ["expression"] (sp_ext (K := K) n)) : Cl P w K mg base CX0 (n + 2) "expression_text" ["expression"] (sp_ext (K := K) (n + 1)) := by
  obtain ⟨fd, F⟩ := T.d_expression_text
  refine ⟨_, fd, T.g_expression_text, F.kp, (FunD.bindsN F (fun _ _ _ _ _ _ us hl => match us, hl with | [_], _ => rfl)), F.ok sc_expression_text (fun vs H Q E h => ?len) (fun cdv A outer s H vs Q E hr h => ?run)⟩
  case len =>
    obtain ⟨v, e, rfl, _⟩ := h
    rfl
  refine ⟨_, PSs.nox (pss_cons (ps_if (pt_not (pt_val (pe_callB call_isi (by rfl) T.f_isinstance (by decide +kernel) (pa_cons (pv 0) (pa_cons (pe_bltn (v := .ty "tuple") rfl T.f_tuple boot_tuple rfl) pa_nil))))) (pss_one (ps_ret (pe_callTy call_strX (by rfl) T.f_str (by decide +kernel) (pa_cons (pv 0) pa_nil)))) pss_nil)
      (pss_cons (ps_asg (pv 0) (pg_tup rfl (pgs_cons (pg_name (i := 1) sc_expression_text.nd rfl (by first | exact Or.inl rfl | exact Or.inr rfl)) (pgs_cons (pg_name (i := 2) sc_expression_text.nd rfl (by first | exact Or.inl rfl | exact Or.inr rfl)) (pgs_cons (pg_name (i := 3) sc_expression_text.nd rfl (by first | exact Or.inl rfl | exact Or.inr rfl)) pgs_nil)))))
      (pss_one (ps_ret (pe_op op_addS (pe_op op_addS (pe_op op_addS (pe_op op_addS pe_str (pcl c_expression_text (hr.mono (by omega)) (pa_cons (pv 2) pa_nil))) (pe_ix ix_kdict (pe_glob (v := .ref _) rfl T.g_SIGNS_texts rfl) (pv 1) (fun _ _ => rfl))) (pcl c_expression_text (hr.mono (by omega)) (pa_cons (pv 3) pa_nil))) pe_str))))), ?_⟩
  obtain ⟨v, e, rfl, hd, ho, hn, k⟩ := h
  walk_at "st"
  cases e with
  | num i =>
    obtain rfl := dp_int hd
    have ib : -99 ≤ i ∧ i ≤ 99 := by simpa [Ex.ok] using ho
    refine r_n (.base (.int _)) ?_
    walk_at "st"
    refine i_ite rfl ?_
    walk_at "st"
    refine i_strI (small_log ib.1 ib.2) ?_
    rw [exL_num]
    exact k
  | nam x =>
    obtain rfl := dp_str hd
    refine r_n (.base (.str _)) ?_
    walk_at "st"
    refine i_ite rfl ?_
    walk_at "st"
    refine i_strS ?_
    have e : mk (exL (.nam x)) = x := mk_tl' x
    rw [e] at k
    exact k
  | bin o a b =>
    obtain ⟨p, u1, u2, u3, rfl, hs, h1, h2, h3⟩ := dp_t3 hd
    obtain rfl := dp_str h1
    obtain ⟨hb, ha⟩ := bin_ok ho
    have la : (exL a).length ≤ 99 := by
      rcases ha with ⟨_, ha⟩ | ⟨f, _, rfl, f1, f2⟩
      · exact len_le n a ha (by omega)
      · have := num_len (i := f) (by omega) (by omega)
        show (numL' f).length ≤ 99
        omega
    have lb := len_le n b hb (by omega)
    have ls := sign_len o
    refine r_y (ty_tup hs) ?_
    walk_at "st"
    refine i_itf rfl ?_
    walk_at "st"
    refine i_gtup hs rfl ?_
    refine i_gcons ?_
    walk_at "st"
    refine i_gcons ?_
    walk_at "st"
    refine i_gcons ?_
    walk_at "st"
    refine i_gnil ?_
    walk_at "st"
    refine ⟨_, a, rfl, h2, ?_, by omega, ?_⟩
    · rcases ha with ⟨_, ha⟩ | ⟨f, _, rfl, f1, f2⟩
      · exact ha
      · cases n with
        | zero => simp [Ex.ok] at hb
        | succ m => exact num_ok m (by omega) (by omega)
    refine i_addE (kc _) rfl (by have : (cs "(").length = 1 := by decide +kernel
                                 omega) ?_
    walk_at "st"
    refine i_ixD (sgn_of T o) ?_
    refine i_addE rfl rfl (by rw [List.length_append]; have : (cs "(").length = 1 := by decide +kernel
                              omega) ?_
    walk_at "st"
    refine ⟨_, b, rfl, h3, hb, by omega, ?_⟩
    refine i_addE rfl rfl (by rw [List.length_append, List.length_append]; have : (cs "(").length = 1 := by decide +kernel
                              omega) ?_
    walk_at "st"
    refine i_addE rfl (kc _) (by rw [List.length_append, List.length_append, List.length_append]; have : (cs "(").length = 1 := by decide +kernel
                                 have : (cs ")").length = 1 := by decide +kernel
                                 omega) ?_
    have e : cs "(" ++ exL a ++ o.sign ++ exL b ++ cs ")" = exL (.bin o a b) := by
      rw [show cs "(" = [40] by decide +kernel, show cs ")" = [41] by decide +kernel]
      show _ = 40 :: (exL a ++ (o.sign ++ (exL b ++ [41])))
      simp
    rw [e]
    exact k
theorem ok_ext (T : Txt w K mg) : ∀ n : Nat, Cl P w K mg base CX0 (n + 1) "expression_text" ["expression"] (sp_ext (K := K) n)
| 0 => by
  obtain ⟨fd, F⟩ := T.d_expression_text
  exact ⟨_, fd, T.g_expression_text, F.kp, (FunD.bindsN F (fun _ _ _ _ _ _ us hl => match us, hl with | [_], _ => rfl)), F.ok sc_expression_text (fun vs H Q E h => ((show False by obtain ⟨v, e, _, _, z, _⟩ := h; simp [Ex.ok] at z)).elim) (fun cdv A outer s H vs Q E hr h => ((show False by obtain ⟨v, e, _, _, z, _⟩ := h; simp [Ex.ok] at z)).elim)⟩
| n + 1 => ok_ext0 T n (ok_ext T n)
/-! test_text -/
def sp_tet (n : Nat) : Sp := fun vs H Q _ => ∃ (v : V) (t : Te), vs = [v] ∧ Dp K H v t.py ∧ t.ok n = true ∧ n ≤ 2 ∧ Q (.str (mk (teL t))) H
theorem wd_not : decide (V.str "less" = .str "not") = false ∧ decide (V.str "rest" = .str "not") = false := by decide +kernel
theorem ok_tet0 (T : Txt w K mg) (n : Nat) (c_test_text : Cl P w K mg base CX0 (n + 5) "test_text" ["test"] (fun vs H Q E => ∃ m, n = m + 1 ∧ sp_tet (K := K) m vs H Q E)) : Cl P w K mg base CX0 (n + 6) "test_text" ["test"] (sp_tet (K := K) n) := by
  have c_expression_text := ok_ext (P := P) (base := base) T 3
  obtain ⟨fd, F⟩ := T.d_test_text
  refine ⟨_, fd, T.g_test_text, F.kp, (FunD.bindsN F (fun _ _ _ _ _ _ us hl => match us, hl with | [_], _ => rfl)), F.ok sc_test_text (fun vs H Q E h => ?len) (fun cdv A outer s H vs Q E hr h => ?run)⟩
  case len =>
    obtain ⟨v, t, rfl, _⟩ := h
    rfl
  refine ⟨_, PSs.nox (pss_cons (ps_if (pt_cmpR op_eq (pe_ix ix_tup (pv 0) pe_int (fun _ _ => rfl)) pe_str (nomark _)) (pss_one (ps_ret (pe_op op_addS pe_str (pcl c_test_text (hr.mono (by omega)) (pa_cons (pe_ix ix_tup (pv 0) pe_int (fun _ _ => rfl)) pa_nil))))) pss_nil)
      (pss_cons (ps_if (pt_cmpR op_eq (pe_ix ix_tup (pv 0) pe_int (fun _ _ => rfl)) pe_str (nomark _)) (pss_one (ps_ret (pe_op op_addS (pe_op op_addS (pe_op op_addS (pe_op op_addS (pe_op op_addS pe_str (pe_callTy call_strX (by rfl) T.f_str (by decide +kernel) (pa_cons (pe_ix ix_tup (pv 0) pe_int (fun _ _ => rfl)) pa_nil))) pe_str) (pe_callTy call_strX (by rfl) T.f_str (by decide +kernel) (pa_cons (pe_ix ix_tup (pv 0) pe_int (fun _ _ => rfl)) pa_nil))) pe_str) (pcl c_expression_text (hr.mono (by omega)) (pa_cons (pe_ix ix_tup (pv 0) pe_int (fun _ _ => rfl)) pa_nil))))) pss_nil)
      (pss_one (ps_ret (pe_op op_addS (pe_op op_addS (pcl c_expression_text (hr.mono (by omega)) (pa_cons (pe_ix ix_tup (pv 0) pe_int (fun _ _ => rfl)) pa_nil)) pe_str) (pcl c_expression_text (hr.mono (by omega)) (pa_cons (pe_ix ix_tup (pv 0) pe_int (fun _ _ => rfl)) pa_nil))))))), ?_⟩
  obtain ⟨v, t, rfl, hd, ho, hn, k⟩ := h
  walk_at "st"
  cases t with
  | less a b =>
    obtain ⟨p, u1, u2, u3, rfl, hs, h1, h2, h3⟩ := dp_t3 hd
    obtain rfl := dp_str h1
    obtain ⟨oa, ob⟩ := less_facts ho
    have la := exL_len3 oa
    have lb := exL_len3 ob
    refine i_ix0 hs ?_
    walk_at "st"
    refine i_itf rfl ?_
    walk_at "st"
    refine i_ix0 hs ?_
    walk_at "st"
    refine i_itf rfl ?_
    walk_at "st"
    refine i_ix1 hs ?_
    walk_at "st"
    refine ⟨_, a, rfl, h2, oa, by omega, ?_⟩
    walk_at "st"
    refine i_addE rfl (kc _) (by have : (cs " < ").length = 3 := by decide +kernel
                                 omega) ?_
    walk_at "st"
    refine i_ix2 hs ?_
    walk_at "st"
    refine ⟨_, b, rfl, h3, ob, by omega, ?_⟩
    refine i_addE rfl rfl (by rw [List.length_append]; have : (cs " < ").length = 3 := by decide +kernel
                              omega) ?_
    have e : exL a ++ cs " < " ++ exL b = teL (.less a b) := by
      rw [show cs " < " = [32, 60, 32] by decide +kernel, List.append_assoc]; rfl
    rw [e]; exact k
  | rest e q r =>
    obtain ⟨p, u1, u2, u3, u4, rfl, hs, h1, h2, h3, h4⟩ := dp_t4 hd
    obtain rfl := dp_str h1
    obtain rfl := dp_int h3
    obtain rfl := dp_int h4
    obtain ⟨oe, hq, hr⟩ := rest_facts ho
    have le := exL_len3 oe
    have lq := num_len hq.1 hq.2
    have lr := num_len hr.1 hr.2
    have l5 : (cs "rest ").length = 5 := by decide +kernel
    have l4 : (cs " of ").length = 4 := by decide +kernel
    have l1 : (cs " ").length = 1 := by decide +kernel
    refine i_ix0 hs ?_
    walk_at "st"
    refine i_itf rfl ?_
    walk_at "st"
    refine i_ix0 hs ?_
    walk_at "st"
    refine i_ite rfl ?_
    walk_at "st"
    refine i_ix3 hs ?_
    walk_at "st"
    refine i_strI (small_log hr.1 hr.2) ?_
    refine i_addE (kc _) (kc _) (by show (cs "rest ").length + (numL' r).length ≤ _; omega) ?_
    walk_at "st"
    refine i_addE rfl (kc _) (by rw [List.length_append]; show (cs "rest ").length + (numL' r).length + _ ≤ _; omega) ?_
    walk_at "st"
    refine i_ix2 hs ?_
    walk_at "st"
    refine i_strI (small_log hq.1 hq.2) ?_
    refine i_addE rfl (kc _) (by rw [List.length_append, List.length_append]; show (cs "rest ").length + (numL' r).length + _ + (numL' q).length ≤ _; omega) ?_
    walk_at "st"
    refine i_addE rfl (kc _) (by rw [List.length_append, List.length_append, List.length_append]; show (cs "rest ").length + (numL' r).length + _ + (numL' q).length + _ ≤ _; omega) ?_
    walk_at "st"
    refine i_ix1 hs ?_
    walk_at "st"
    refine ⟨_, e, rfl, h2, oe, by omega, ?_⟩
    refine i_addE rfl rfl (by rw [List.length_append, List.length_append, List.length_append, List.length_append]; show (cs "rest ").length + (numL' r).length + _ + (numL' q).length + _ + _ ≤ _; omega) ?_
    have ee : cs "rest " ++ numL' r ++ cs " of " ++ numL' q ++ cs " " ++ exL e = teL (.rest e q r) := by
      rw [show cs " " = [32] by decide +kernel]
      show _ = cs "rest " ++ (numL' r ++ (cs " of " ++ (numL' q ++ ([32] ++ exL e))))
      simp only [List.append_assoc]
    have k2 : Q (.str (mk (cs "rest " ++ numL' r ++ cs " of " ++ numL' q ++ cs " " ++ exL e))) H := by rw [ee]; exact k
    exact k2
  | no t =>
    obtain ⟨p, u1, u2, rfl, hs, h1, h2⟩ := dp_t2 hd
    obtain rfl := dp_str h1
    refine i_ix0 hs ?_
    walk_at "st"
    refine i_ite rfl ?_
    walk_at "st"
    refine i_ix1 hs ?_
    walk_at "st"
    cases n with
    | zero => simp [Te.ok] at ho
    | succ m =>
      have ot : t.ok m = true := by simpa [Te.ok] using ho
      refine ⟨m, rfl, _, t, rfl, h2, ot, by omega, ?_⟩
      have := teL_len t m ot
      refine i_addE (kc _) rfl (by have : (cs "not ").length = 4 := by decide +kernel
                                   omega) ?_
      exact k
theorem ok_tet (T : Txt w K mg) : ∀ n : Nat, Cl P w K mg base CX0 (n + 6) "test_text" ["test"] (sp_tet (K := K) n)
| 0 => by
  refine ok_tet0 T 0 (Cl.up (j := 1) ?_ (by omega))
  obtain ⟨fd, F⟩ := T.d_test_text
  exact ⟨_, fd, T.g_test_text, F.kp, (FunD.bindsN F (fun _ _ _ _ _ _ us hl => match us, hl with | [_], _ => rfl)), F.ok sc_test_text (fun vs H Q E h => ((show False by obtain ⟨m, e, _⟩ := h; omega)).elim) (fun cdv A outer s H vs Q E hr h => ((show False by obtain ⟨m, e, _⟩ := h; omega)).elim)⟩
| n + 1 => by
  exact ok_tet0 T (n + 1) ((ok_tet T n).imp fun vs H Q E h => by obtain ⟨m', e, h⟩ := h; obtain rfl : n = m' := (by omega); exact h)
/-! line_text -/
def sp_lit : Sp := fun vs H Q _ => ∃ (v : V) (s : Sm), vs = [v] ∧ Dp K H v s.py ∧ s.ok = true ∧ Q (.str (mk (liL s))) H
theorem ok_lit (T : Txt w K mg) : Cl P w K mg base CX0 10 "line_text" ["statement"] (sp_lit (K := K)) := by
  have c_expression_text := ok_ext (P := P) (base := base) T 3
  have c_test_text := ok_tet (P := P) (base := base) T 2
  obtain ⟨fd, F⟩ := T.d_line_text
  refine ⟨_, fd, T.g_line_text, F.kp, (FunD.bindsN F (fun _ _ _ _ _ _ us hl => match us, hl with | [_], _ => rfl)), F.ok sc_line_text (fun vs H Q E h => ?len) (fun cdv A outer s H vs Q E hr h => ?run)⟩
  case len =>
    obtain ⟨v, s, rfl, _⟩ := h
    rfl
  refine ⟨_, PSs.nox (pss_cons (ps_set (i := 1) sc_line_text.nd rfl (by first | exact Or.inl rfl | exact Or.inr rfl) (pe_ix ix_tup (pv 0) pe_int (fun _ _ => rfl)))
      (pss_cons (ps_if (pt_cmpR op_eq (pv 1) pe_str (nomark _)) (pss_one (ps_ret (pe_op op_addS (pe_op op_addS (pe_op op_addS pe_str (pe_ix ix_tup (pv 0) pe_int (fun _ _ => rfl))) pe_str) (pcl c_expression_text (hr.mono (by omega)) (pa_cons (pe_ix ix_tup (pv 0) pe_int (fun _ _ => rfl)) pa_nil))))) pss_nil)
      (pss_cons (ps_if (pt_cmpR op_eq (pv 1) pe_str (nomark _)) (pss_one (ps_ret (pe_op op_addS pe_str (pcl c_expression_text (hr.mono (by omega)) (pa_cons (pe_ix ix_tup (pv 0) pe_int (fun _ _ => rfl)) pa_nil))))) pss_nil)
      (pss_cons (ps_if (pt_cmpR op_eq (pv 1) pe_str (nomark _)) (pss_one (ps_ret (pe_op op_addS pe_str (pcl c_test_text (hr.mono (by omega)) (pa_cons (pe_ix ix_tup (pv 0) pe_int (fun _ _ => rfl)) pa_nil))))) pss_nil)
      (pss_one (ps_ret (pe_ifExp (pt_cmpR op_eq (pv 1) pe_str (nomark _)) (pe_op op_addS pe_str (pe_callTy call_strX (by rfl) T.f_str (by decide +kernel) (pa_cons (pe_ix ix_tup (pv 0) pe_int (fun _ _ => rfl)) pa_nil))) (pv 1)))))))), ?_⟩
  obtain ⟨v, s', rfl, hd, ho, k⟩ := h
  walk_at "st"
  cases s' with
  | set x e =>
    obtain ⟨p, u1, u2, u3, rfl, hs, h1, h2, h3⟩ := dp_t3 hd
    obtain rfl := dp_str h1
    obtain rfl := dp_str h2
    simp only [Sm.ok, Bool.and_eq_true] at ho
    obtain ⟨c, r, _, _, hl, _⟩ := name_all ho.1
    have le := exL_len3 ho.2
    have l4 : (cs "set ").length = 4 := by decide +kernel
    have l1 : (cs " ").length = 1 := by decide +kernel
    refine i_ix0 hs ?_
    walk_at "st"
    refine i_ite rfl ?_
    walk_at "st"
    refine i_ix1 hs ?_
    refine i_addE (kc _) (mk_tl' x).symm (by omega) ?_
    walk_at "st"
    refine i_addE rfl (kc _) (by rw [List.length_append]; omega) ?_
    walk_at "st"
    refine i_ix2 hs ?_
    walk_at "st"
    refine ⟨_, e, rfl, h3, ho.2, by omega, ?_⟩
    refine i_addE rfl rfl (by rw [List.length_append, List.length_append]; omega) ?_
    have ee : cs "set " ++ tl x ++ cs " " ++ exL e = liL (.set x e) := by
      rw [show cs " " = [32] by decide +kernel]
      show _ = cs "set " ++ (tl x ++ ([32] ++ exL e))
      simp only [List.append_assoc]
    have k2 : Q (.str (mk (cs "set " ++ tl x ++ cs " " ++ exL e))) H := by rw [ee]; exact k
    exact k2
  | pay e =>
    obtain ⟨p, u1, u2, rfl, hs, h1, h2⟩ := dp_t2 hd
    obtain rfl := dp_str h1
    have le := exL_len3 (show e.ok 3 = true from ho)
    refine i_ix0 hs ?_
    walk_at "st"
    refine i_itf rfl ?_
    walk_at "st"
    refine i_ite rfl ?_
    walk_at "st"
    refine i_ix1 hs ?_
    walk_at "st"
    refine ⟨_, e, rfl, h2, ho, by omega, ?_⟩
    refine i_addE (kc _) rfl (by have : (cs "pay ").length = 4 := by decide +kernel
                                 omega) ?_
    exact k
  | stop =>
    obtain ⟨p, u1, rfl, hs, h1⟩ := dp_t1 hd
    obtain rfl := dp_str h1
    refine i_ix0 hs ?_
    walk_at "st"
    refine i_itf rfl ?_
    walk_at "st"
    refine i_itf rfl ?_
    walk_at "st"
    refine i_itf rfl ?_
    walk_at "st"
    refine i_itf rfl ?_
    walk_at "st"
    have e : Str.ofString "stop" = mk (liL .stop) := kc _
    rw [e]; exact k
  | ift t y n =>
    obtain ⟨p, u1, u2, u3, u4, rfl, hs, h1, h2, h3, h4⟩ := dp_t4 hd
    obtain rfl := dp_str h1
    refine i_ix0 hs ?_
    walk_at "st"
    refine i_itf rfl ?_
    walk_at "st"
    refine i_itf rfl ?_
    walk_at "st"
    refine i_ite rfl ?_
    walk_at "st"
    refine i_ix1 hs ?_
    walk_at "st"
    have := teL_len t 2 ho
    refine ⟨_, t, rfl, h2, ho, by omega, ?_⟩
    refine i_addE (kc _) rfl (by have : (cs "if ").length = 3 := by decide +kernel
                                 omega) ?_
    exact k
  | cho hh a b =>
    obtain ⟨p, u1, u2, u3, rfl, hs, h1, h2, h3⟩ := dp_t3 hd
    obtain rfl := dp_str h1
    obtain ⟨n1, n2, n3, n4⟩ := hand_no hh
    refine i_ix0 hs ?_
    walk_at "st"
    refine i_itf n1 ?_
    walk_at "st"
    refine i_itf n2 ?_
    walk_at "st"
    refine i_itf n3 ?_
    walk_at "st"
    refine i_itf n4 ?_
    walk_at "st"
    have e : mk (liL (.cho hh a b)) = hand hh := mk_tl' _
    rw [e] at k; exact k
  | rep m b =>
    obtain ⟨p, u1, u2, u3, rfl, hs, h1, h2, h3⟩ := dp_t3 hd
    obtain rfl := dp_str h1
    obtain rfl := dp_int h2
    have hm : 1 ≤ m ∧ m ≤ 8 := of_decide_eq_true ho
    refine i_ix0 hs ?_
    walk_at "st"
    refine i_itf rfl ?_
    walk_at "st"
    refine i_itf rfl ?_
    walk_at "st"
    refine i_itf rfl ?_
    walk_at "st"
    refine i_ite rfl ?_
    walk_at "st"
    refine i_ix1 hs ?_
    walk_at "st"
    refine i_strI (small_log (by omega) (by omega)) ?_
    have := num_len (i := m) (by omega) (by omega)
    refine i_addE (kc _) (kc _) (by have : (cs "repeat ").length = 7 := by decide +kernel
                                    show _ + (numL' m).length ≤ _
                                    omega) ?_
    exact k
  | half h a => cases ho
end
end K04
/-! text C2 -/
set_option Elab.async false
set_option linter.all false
set_option maxRecDepth 100000
set_option maxHeartbeats 4000000
namespace K04
open PySem PySem.Spec PyProof.Rows L2 TL
local macro_rules
  | `(tactic| walk_at "st") => `(tactic| repeat (with_reducible first
    | refine i_seq ?_ | refine i_ret ?_ | refine i_asg ?_ | refine i_name ?_ | refine i_ifs ?_ | refine i_test ?_ | refine i_B ?_ | refine i_bl ?_ | refine i_var (by with_unfolding_all rfl) ?_ | refine i_c ?_
    | refine i_op ?_ | refine i_un ?_ | refine i_cb ?_ | refine i_cons ?_ | refine i_nil ?_ | refine i_call ?_ | refine i_and ?_ | refine i_or ?_ | refine i_not ?_ | refine i_andV ?_ | refine i_orV ?_ | refine i_notV ?_ | refine i_if ?_
    | refine i_tup ?_ | refine i_lst ?_ | refine i_sl ?_ | refine i_nopart ?_ | refine i_part ?_ | refine i_int ?_ | refine i_chain ?_ | refine i_I0 ?_ | refine i_par ?_ | refine i_two ?_ | refine i_bm ?_ | refine i_bm0 ?_ | refine i_m1 ?_ | refine i_tyS ?_ | refine i_str ?_
    | refine i_for ?_ | refine i_iTup ?_ | refine i_iList ?_ | refine i_iStr ?_ | refine i_iRng1 ?_ | refine i_iRng2 ?_ | refine i_iEnum ?_ | refine i_lc ?_ | refine i_yes ?_ | refine i_revL ?_ | refine i_fld ?_ | refine i_sfld ?_ | refine i_meth ?_ | refine i_make ?_ | refine i_isN ?_ | refine i_notN ?_ | refine i_intB ?_ | refine i_intI ?_
    | refine i_next ?_ | refine i_drop ?_ | refine i_retN ?_ | refine i_gsub ?_ | refine i_ipI ?_ | refine i_aug (by with_unfolding_all rfl) ?_
    | refine i_eq (by with_unfolding_all rfl) ?_ | refine i_ne (by with_unfolding_all rfl) ?_))
abbrev N_part_lines : List Str := ["block", "ahead"]
theorem sc_part_lines : FnScope N_part_lines ["block", "ahead"] (defScope s_part_lines) := ⟨rfl, rfl, rfl, by decide +kernel, rfl, by decide +kernel, by decide +kernel⟩
abbrev N_block_lines : List Str := ["block", "ahead", "lines", "statement"]
theorem sc_block_lines : FnScope N_block_lines ["block", "ahead"] (defScope s_block_lines) := ⟨rfl, rfl, rfl, by decide +kernel, rfl, by decide +kernel, by decide +kernel⟩

section
variable {P : Program} {w : World} {K : PySem.W.Frag} {mg : Str → Option Value} {base : Heap}
abbrev sV (l : List Nat) : V := .str (mk l)
def GivesL (H : Hp) (Q : VK) (ls : List (List Nat)) : Prop := ∀ (H' : Hp) (l : Addr), Same H H' → H l = none → H' l = some (.lst (ls.map sV)) → Q (.ref l) H'
theorem ind_step (d : Nat) : ind d ++ cs "  " = ind (d + 1) := by
  rw [show cs "  " = List.replicate 2 32 by decide +kernel]
  unfold ind
  rw [List.replicate_append_replicate]; rfl
def sp_blkl (n : Nat) : Sp := fun vs H Q _ => ∃ (v : V) (b : List Sm) (d : Nat), vs = [v, .str (mk (ind d))] ∧ Dp K H v (bpy b) ∧ n + d = 4 ∧ Sm.goods d b = true ∧ Sm.pls b ≤ 1000 ∧ GivesL H Q (Sm.liness d b)
def sp_partl (n : Nat) : Sp := fun vs H Q _ => ∃ (v : V) (b : List Sm) (d : Nat), vs = [v, .str (mk (ind d))] ∧ Dp K H v (bpy b) ∧ n + d = 4 ∧ Sm.goods d b = true ∧ Sm.pls b ≤ 1000 ∧ GivesL H Q (partL d b)
theorem ok_partl (T : Txt w K mg) (n k : Nat) (c_block_lines : Cl P w K mg base CX0 k "block_lines" ["block", "ahead"] (sp_blkl (K := K) n)) : Cl P w K mg base CX0 (k + 1) "part_lines" ["block", "ahead"] (sp_partl (K := K) n) := by
  obtain ⟨fd, F⟩ := T.d_part_lines
  refine ⟨_, fd, T.g_part_lines, F.kp, (FunD.bindsN F (fun _ _ _ _ _ _ us hl => match us, hl with | [_, _], _ => rfl)), F.ok sc_part_lines (fun vs H Q E h => ?len) (fun cdv A outer s H vs Q E hr h => ?run)⟩
  case len =>
    obtain ⟨v, b, d, rfl, _⟩ := h
    rfl
  refine ⟨_, PSs.nox (pss_one (ps_ret (pe_ifExp (pt_cmpR (op_neN hr.units0) (pv 0) (pe_tup pa_nil) (nomark _)) (pcl c_block_lines (hr.mono (by omega)) (pa_cons (pv 0) (pa_cons (pv 1) pa_nil))) (pe_lst (pa_cons (pe_op op_addS (pv 1) pe_str) pa_nil))))), ?_⟩
  obtain ⟨v, b, d, rfl, hd, hnd, hg, hpl, k⟩ := h
  obtain ⟨p, us, rfl, hs, hus⟩ := dp_tup hd
  walk_at "st"
  refine i_new (by simp) fun e he => ?_
  refine i_neNT (Same.tup (Same.new he) hs) (.inl (.inl upd_same)) ?_
  walk_at "st"
  have sE := Same.new (o := .tup []) he
  cases b with
  | nil =>
    obtain rfl := dpa_nil hus
    refine i_itf rfl ?_
    walk_at "st"
    refine i_addE rfl (kc _) (by rw [ind_len]; have : (cs "pass").length = 4 := by decide +kernel
                                 omega) ?_
    walk_at "st"
    refine i_new (by simp) fun l hl => ?_
    exact k _ l (Same.grow sE hl) (sE.free hl) upd_same
  | cons s r =>
    obtain ⟨u, us, rfl, _, _⟩ := dpa_cons hus
    refine i_ite rfl ?_
    walk_at "st"
    refine ⟨_, s :: r, d, rfl, dp_mono sE hd, hnd, hg, hpl, fun H' l s1 hl h2 => ?_⟩
    exact k _ l (Same.trans sE s1) (sE.free hl) h2
theorem hands_t (s : Sm) : inV (.str s.wd) [.str "if", .str "repeat"] = (match s with | .ift _ _ _ => true | .rep _ _ => true | _ => false) := by
  cases s with
  | set _ _ => (show inV (.str "set") _ = false); decide +kernel
  | pay _ => (show inV (.str "pay") _ = false); decide +kernel
  | stop => (show inV (.str "stop") _ = false); decide +kernel
  | ift _ _ _ => (show inV (.str "if") _ = true); decide +kernel
  | rep _ _ => (show inV (.str "repeat") _ = true); decide +kernel
  | cho h _ _ => (show inV (.str (hand h)) _ = false); cases h <;> decide +kernel
  | half h _ => (show inV (.str (hand h)) _ = false); cases h <;> decide +kernel
theorem wd_if (s : Sm) : decide (V.str s.wd = .str "if") = (match s with | .ift _ _ _ => true | _ => false) := by
  cases s with
  | set _ _ => (show decide (V.str "set" = _) = false); decide +kernel
  | pay _ => (show decide (V.str "pay" = _) = false); decide +kernel
  | stop => (show decide (V.str "stop" = _) = false); decide +kernel
  | ift _ _ _ => (show decide (V.str "if" = _) = true); decide +kernel
  | rep _ _ => (show decide (V.str "repeat" = _) = false); decide +kernel
  | cho h _ _ => (show decide (V.str (hand h) = _) = false); cases h <;> decide +kernel
  | half h _ => (show decide (V.str (hand h) = _) = false); cases h <;> decide +kernel
theorem part_len (d : Nat) (b : List Sm) : (partL d b).length ≤ 4 * Sm.pls b + 1 := by
  unfold partL
  split
  · simp
  · have := liness_cnt b d; omega
theorem one_l : (cs "or").length = 2 ∧ (cs "else").length = 4 ∧ (cs "  ").length = 2 := by decide +kernel
theorem ok_blkl0 (T : Txt w K mg) (n k : Nat) (hk : 10 ≤ k) (c_block_lines : Cl P w K mg base CX0 k "block_lines" ["block", "ahead"] (fun vs H Q E => ∃ m, n = m + 1 ∧ sp_blkl (K := K) m vs H Q E)) (c_part_lines : Cl P w K mg base CX0 k "part_lines" ["block", "ahead"] (fun vs H Q E => ∃ m, n = m + 1 ∧ sp_partl (K := K) m vs H Q E)) :
    Cl P w K mg base CX0 (k + 1) "block_lines" ["block", "ahead"] (sp_blkl (K := K) n) := by
  have c_line_text := ok_lit (P := P) (base := base) T
  obtain ⟨fd, F⟩ := T.d_block_lines
  obtain ⟨_, hc_STEP⟩ := T.c_STEP
  refine ⟨_, fd, T.g_block_lines, F.kp, (FunD.bindsN F (fun _ _ _ _ _ _ us hl => match us, hl with | [_, _], _ => rfl)), F.ok sc_block_lines (fun vs H Q E h => ?len) (fun cdv A outer s H vs Q E hr h => ?run)⟩
  case len =>
    obtain ⟨v, b, d, rfl, _⟩ := h
    rfl
  refine ⟨_, PSs.nox (pss_cons (ps_set (i := 2) sc_block_lines.nd rfl (by first | exact Or.inl rfl | exact Or.inr rfl) (pe_lst pa_nil))
      (pss_cons (ps_for PassesOwn.never rfl (pi_tup (pv 0)) (pg_name (i := 3) sc_block_lines.nd rfl (by first | exact Or.inl rfl | exact Or.inr rfl)) (pss_cons (ps_expr (pe_bm PySem.F.plainAttrs_list PySem.F.slot_list_append PySem.F.type_list_append mt_append (pv 2) (pa_cons (pe_op op_addS (pv 1) (pcl c_line_text (hr.mono (by omega)) (pa_cons (pv 3) pa_nil))) pa_nil)))
      (pss_cons (ps_if (pt_cmpR op_in_seq (pe_ix ix_tup (pv 3) pe_int (fun _ _ => rfl)) (pe_tup (pa_cons pe_str (pa_cons pe_str pa_nil))) (by rfl)) (pss_one (ps_expr (pe_bm PySem.F.plainAttrs_list PySem.F.slot_list_extend PySem.F.type_list_extend mt_extend (pv 2) (pa_cons (pcl c_part_lines (hr.mono (by omega)) (pa_cons (pe_ix ix_tup (pv 3) pe_int (fun _ _ => rfl)) (pa_cons (pe_op op_addS (pv 1) (pe_glob (v := .str "  ") rfl hc_STEP ⟨_, rfl⟩)) pa_nil))) pa_nil)))) pss_nil)
      (pss_cons (ps_if (PW.pt (pw_and (pt_cmpR op_eq (pe_ix ix_tup (pv 3) pe_int (fun _ _ => rfl)) pe_str (nomark _)) (pw_and1 (pt_cmpR (op_neN hr.units0) (pe_ix ix_tup (pv 3) pe_int (fun _ _ => rfl)) (pe_tup pa_nil) (nomark _))))) (pss_cons (ps_expr (pe_bm PySem.F.plainAttrs_list PySem.F.slot_list_append PySem.F.type_list_append mt_append (pv 2) (pa_cons (pe_op op_addS (pv 1) pe_str) pa_nil)))
      (pss_one (ps_expr (pe_bm PySem.F.plainAttrs_list PySem.F.slot_list_extend PySem.F.type_list_extend mt_extend (pv 2) (pa_cons (pcl c_block_lines (hr.mono (by omega)) (pa_cons (pe_ix ix_tup (pv 3) pe_int (fun _ _ => rfl)) (pa_cons (pe_op op_addS (pv 1) (pe_glob (v := .str "  ") rfl hc_STEP ⟨_, rfl⟩)) pa_nil))) pa_nil))))) pss_nil)
      (pss_one (ps_if (pt_cmpR op_in_seq (pe_ix ix_tup (pv 3) pe_int (fun _ _ => rfl)) (pe_glob (v := .ref _) rfl T.g_HANDS rfl) (by rfl)) (pss_cons (ps_expr (pe_bm PySem.F.plainAttrs_list PySem.F.slot_list_extend PySem.F.type_list_extend mt_extend (pv 2) (pa_cons (pe_op op_cat (pcl c_part_lines (hr.mono (by omega)) (pa_cons (pe_ix ix_tup (pv 3) pe_int (fun _ _ => rfl)) (pa_cons (pe_op op_addS (pv 1) (pe_glob (v := .str "  ") rfl hc_STEP ⟨_, rfl⟩)) pa_nil))) (pe_lst (pa_cons (pe_op op_addS (pv 1) pe_str) pa_nil))) pa_nil)))
      (pss_one (ps_expr (pe_bm PySem.F.plainAttrs_list PySem.F.slot_list_extend PySem.F.type_list_extend mt_extend (pv 2) (pa_cons (pcl c_part_lines (hr.mono (by omega)) (pa_cons (pe_ix ix_tup (pv 3) pe_int (fun _ _ => rfl)) (pa_cons (pe_op op_addS (pv 1) (pe_glob (v := .str "  ") rfl hc_STEP ⟨_, rfl⟩)) pa_nil))) pa_nil))))) pss_nil))))))
      (pss_one (ps_ret (pv 2))))), ?_⟩
  obtain ⟨v, b, d, rfl, hd, hnd, hg, hpl, kk⟩ := h
  obtain ⟨a, us, rfl, hs, hus⟩ := dp_tup hd
  have hul : us.length = b.length := by rw [dpa_len hus, pys_eq]; simp
  walk_at "st"
  refine i_new (by simp) fun F hF => ?_
  walk_at "st"
  refine ⟨a, rfl, ⟨us, Same.tup (Same.new hF) hs⟩, ?_⟩
  refine for_it (walk_tup (xs := us)) (fun j τ G => (∃ x3, τ = [some (.ref a), some (.str (mk (ind d))), some (.ref F), x3]) ∧ Same H G ∧ G F = some (.lst ((Sm.liness d (b.take j)).map sV))) ⟨⟨_, rfl⟩, Same.new hF, upd_same⟩ (fun j τ G _ h => Same.tup h.2.1 hs) ?_ ?_
  · rintro j x τ G G' hj ⟨⟨x3, rfl⟩, sG, gF⟩ ⟨rfl, hx⟩
    obtain ⟨e, he, de⟩ := dpa_get hus hx
    rw [pys_eq, List.getElem?_map] at he
    cases hb : b[j]? with
    | none => rw [hb] at he; cases he
    | some s' =>
    rw [hb] at he
    cases he
    have hgs := goods_mem hg s' (List.mem_of_getElem? hb)
    have hok := good_ok hgs
    have hspl := pl_mem (List.mem_of_getElem? hb)
    have hdeep := good_deep hgs
    have hll := liL_len hok
    obtain ⟨l2, l4, l22⟩ := one_l
    have hcn : (Sm.liness d (b.take j)).length ≤ 4000 := by
      have := liness_cnt (b.take j) d
      have := CutB.pls (CutB.front (b.take j) (b.drop j))
      rw [List.take_append_drop] at this
      omega
    have hil := ind_len d
    obtain ⟨ps, xs, rfl, hps⟩ := sm_head de
    walk_at "st"
    refine i_tyL (.inl (.inl gF)) ?_
    walk_at "st"
    refine ⟨_, s', rfl, dp_mono sG de, hok, ?_⟩
    refine i_addE rfl rfl (by omega) ?_
    walk_at "st"
    refine i_append gF (by rw [List.length_map]; omega) ?_
    walk_at "st"
    have s1 : Same H (upd G' F (.lst ((Sm.liness d (b.take j)).map sV ++ [.str (mk (ind d ++ liL s'))]))) := Same.mut sG hF
    refine i_ix0 (Same.tup s1 hps) ?_
    walk_at "st"
    refine i_new (by simp) fun t1 ht1 => ?_
    refine i_inT (.inl (.inl upd_same)) rfl rfl ?_
    walk_at "st"
    have s2 := Same.grow (o := .tup [.str "if", .str "repeat"]) s1 ht1
    have gF2 : upd (upd G' F (.lst ((Sm.liness d (b.take j)).map sV ++ [.str (mk (ind d ++ liL s'))]))) t1 (.tup [.str "if", .str "repeat"]) F = some (.lst ((Sm.liness d (b.take j)).map sV ++ [.str (mk (ind d ++ liL s'))])) := (Same.new ht1) _ _ upd_same
    generalize hG2 : upd (upd G' F (.lst ((Sm.liness d (b.take j)).map sV ++ [.str (mk (ind d ++ liL s'))]))) t1 (.tup [.str "if", .str "repeat"]) = G2 at s2 gF2 ⊢
    rw [show (Sm.liness d (b.take j)).map sV ++ [.str (mk (ind d ++ liL s'))] = (Sm.liness d (b.take j) ++ [ind d ++ liL s']).map sV by simp] at gF2
    rw [hands_t]
    have fin : ∀ (G3 : Hp) (acc : List (List Nat)), Same H G3 → G3 F = some (.lst (acc.map sV)) → acc = Sm.liness d (b.take j) ++ s'.lines d → (∃ x3, ([some (V.ref a), some (.str (mk (ind d))), some (.ref F), some (V.ref ps)] : L2.St) = [some (.ref a), some (.str (mk (ind d))), some (.ref F), x3]) ∧ Same H G3 ∧ G3 F = some (.lst ((Sm.liness d (b.take (j + 1))).map sV)) := by
      intro G3 acc s3 g3 e3
      refine ⟨⟨_, rfl⟩, s3, ?_⟩
      rw [take_next hb, liness_app, liness_one, ← e3]; exact g3
    cases s' with
    | set x e =>
      refine i_itf rfl ?_
      walk_at "st"
      refine i_ix0 (Same.tup s2 hps) ?_
      walk_at "st"
      refine i_itf rfl ?_
      walk_at "st"
      refine i_itf rfl ?_
      walk_at "st"
      refine i_ix0 (Same.tup s2 hps) ?_
      walk_at "st"
      refine i_inT (T.t_HANDS _) rfl rfl ?_
      walk_at "st"
      refine i_itf hw_set ?_
      walk_at "st"
      exact fin _ _ s2 gF2 rfl
    | pay e =>
      refine i_itf rfl ?_
      walk_at "st"
      refine i_ix0 (Same.tup s2 hps) ?_
      walk_at "st"
      refine i_itf rfl ?_
      walk_at "st"
      refine i_itf rfl ?_
      walk_at "st"
      refine i_ix0 (Same.tup s2 hps) ?_
      walk_at "st"
      refine i_inT (T.t_HANDS _) rfl rfl ?_
      walk_at "st"
      refine i_itf hw_pay ?_
      walk_at "st"
      exact fin _ _ s2 gF2 rfl
    | stop =>
      refine i_itf rfl ?_
      walk_at "st"
      refine i_ix0 (Same.tup s2 hps) ?_
      walk_at "st"
      refine i_itf rfl ?_
      walk_at "st"
      refine i_itf rfl ?_
      walk_at "st"
      refine i_ix0 (Same.tup s2 hps) ?_
      walk_at "st"
      refine i_inT (T.t_HANDS _) rfl rfl ?_
      walk_at "st"
      refine i_itf hw_stop ?_
      walk_at "st"
      exact fin _ _ s2 gF2 rfl
    | rep m y =>
      simp only [Sm.good, Bool.and_eq_true, decide_eq_true_eq] at hgs
      have hpy : Sm.pls y ≤ 1000 := by simp only [Sm.pl] at hspl; omega
      obtain ⟨p2, u1, u2, u3, e, hs2, h1, h2, h3⟩ := dp_t3 de
      cases e
      refine i_ite rfl ?_
      walk_at "st"
      refine i_tyL (.inl (.inl gF2)) ?_
      walk_at "st"
      refine i_ix2 (Same.tup s2 hs2) ?_
      walk_at "st"
      refine i_addE rfl (kc _) (by omega) ?_
      walk_at "st"
      rw [ind_step]
      refine ⟨n - 1, by omega, _, y, d + 1, rfl, dp_mono s2 h3, by omega, hgs.2, hpy, fun G3 l s3 hl0 hl => ?_⟩
      walk_at "st"
      refine i_extend (s3 _ _ gF2) hl (by have := part_len (d + 1) y
                                          simp only [List.length_map, List.length_append, List.length_cons, List.length_nil]; omega) ?_
      walk_at "st"
      have s4 : Same H (upd G3 F (.lst ((Sm.liness d (b.take j) ++ [ind d ++ liL (.rep m y)]).map sV ++ (partL (d + 1) y).map sV))) := Same.mut (Same.trans s2 s3) hF
      refine i_ix0 (Same.tup s4 hps) ?_
      walk_at "st"
      refine i_itf rfl ?_
      walk_at "st"
      refine i_itf rfl ?_
      walk_at "st"
      refine i_ix0 (Same.tup s4 hps) ?_
      walk_at "st"
      refine i_inT (T.t_HANDS _) rfl rfl ?_
      walk_at "st"
      refine i_itf hw_rep ?_
      walk_at "st"
      exact fin _ _ s4 (by rw [upd_same, ← List.map_append]) (by unfold Sm.lines partL; simp)
    | ift t y z =>
      simp only [Sm.good, Bool.and_eq_true, decide_eq_true_eq] at hgs
      have hpy : Sm.pls y ≤ 1000 := by simp only [Sm.pl] at hspl; omega
      have hpz : Sm.pls z ≤ 1000 := by simp only [Sm.pl] at hspl; omega
      obtain ⟨p2, u1, u2, u3, u4, e, hs2, h1, h2, h3, h4⟩ := dp_t4 de
      cases e
      refine i_ite rfl ?_
      walk_at "st"
      refine i_tyL (.inl (.inl gF2)) ?_
      walk_at "st"
      refine i_ix2 (Same.tup s2 hs2) ?_
      walk_at "st"
      refine i_addE rfl (kc _) (by omega) ?_
      walk_at "st"
      rw [ind_step]
      refine ⟨n - 1, by omega, _, y, d + 1, rfl, dp_mono s2 h3, by omega, hgs.1.2, hpy, fun G3 l s3 hl0 hl => ?_⟩
      walk_at "st"
      have lpy := part_len (d + 1) y
      refine i_extend (s3 _ _ gF2) hl (by simp only [List.length_map, List.length_append, List.length_cons, List.length_nil]; omega) ?_
      walk_at "st"
      have s4 : Same H (upd G3 F (.lst ((Sm.liness d (b.take j) ++ [ind d ++ liL (.ift t y z)]).map sV ++ (partL (d + 1) y).map sV))) := Same.mut (Same.trans s2 s3) hF
      have g4 : upd G3 F (.lst ((Sm.liness d (b.take j) ++ [ind d ++ liL (.ift t y z)]).map sV ++ (partL (d + 1) y).map sV)) F = some (.lst ((Sm.liness d (b.take j) ++ [ind d ++ liL (.ift t y z)] ++ partL (d + 1) y).map sV)) := by rw [upd_same, List.map_append (l₁ := _ ++ _)]
      generalize upd G3 F (.lst ((Sm.liness d (b.take j) ++ [ind d ++ liL (.ift t y z)]).map sV ++ (partL (d + 1) y).map sV)) = G4 at s4 g4 ⊢
      refine i_ix0 (Same.tup s4 hps) ?_
      walk_at "st"
      refine i_ite rfl ?_
      walk_at "st"
      refine i_ix3 (Same.tup s4 hs2) ?_
      walk_at "st"
      obtain ⟨pz, uz, rfl, hsz, huz⟩ := dp_tup h4
      refine i_new (by simp) fun t5 ht5 => ?_
      refine i_neNT (Same.tup (Same.grow s4 ht5) hsz) (.inl (.inl upd_same)) ?_
      walk_at "st"
      have s5 := Same.grow (o := .tup []) s4 ht5
      have g5 := (Same.new (o := .tup []) ht5) _ _ g4
      cases z with
      | nil =>
        obtain rfl := dpa_nil huz
        refine i_itf rfl ?_
        walk_at "st"
        refine i_ix0 (Same.tup s5 hps) ?_
        walk_at "st"
        refine i_inT (T.t_HANDS _) rfl rfl ?_
        walk_at "st"
        refine i_itf hw_if ?_
        walk_at "st"
        exact fin _ _ s5 g5 (by unfold Sm.lines partL; simp)
      | cons z1 z2 =>
        obtain ⟨_, _, rfl, _, _⟩ := dpa_cons huz
        refine i_ite rfl ?_
        walk_at "st"
        refine i_tyL (.inl (.inl g5)) ?_
        walk_at "st"
        refine i_addE rfl (kc _) (by omega) ?_
        walk_at "st"
        refine i_append g5 (by simp only [List.length_map, List.length_append, List.length_cons, List.length_nil]; omega) ?_
        walk_at "st"
        have s6 := Same.mut (o := .lst ((Sm.liness d (b.take j) ++ [ind d ++ liL (.ift t y (z1 :: z2))] ++ partL (d + 1) y).map sV ++ [.str (mk (ind d ++ cs "else"))])) s5 hF
        refine i_tyL (.inl (.inl upd_same)) ?_
        walk_at "st"
        refine i_ix3 (Same.tup s6 hs2) ?_
        walk_at "st"
        refine i_addE rfl (kc _) (by omega) ?_
        walk_at "st"
        rw [ind_step]
        refine ⟨n - 1, by omega, _, z1 :: z2, d + 1, rfl, dp_mono s6 h4, by omega, hgs.2, hpz, fun G7 l7 s7 hl07 hl7 => ?_⟩
        walk_at "st"
        have := liness_cnt (z1 :: z2) (d + 1)
        refine i_extend (s7 _ _ upd_same) hl7 (by simp only [List.length_map, List.length_append, List.length_cons, List.length_nil]; omega) ?_
        walk_at "st"
        have s8 := Same.mut (o := .lst ((Sm.liness d (b.take j) ++ [ind d ++ liL (.ift t y (z1 :: z2))] ++ partL (d + 1) y).map sV ++ [.str (mk (ind d ++ cs "else"))] ++ (Sm.liness (d + 1) (z1 :: z2)).map sV)) (Same.trans s6 s7) hF
        refine i_ix0 (Same.tup s8 hps) ?_
        walk_at "st"
        refine i_inT (T.t_HANDS _) rfl rfl ?_
        walk_at "st"
        refine i_itf hw_if ?_
        walk_at "st"
        refine fin _ (Sm.liness d (b.take j) ++ [ind d ++ liL (.ift t y (z1 :: z2))] ++ partL (d + 1) y ++ [ind d ++ cs "else"] ++ Sm.liness (d + 1) (z1 :: z2)) s8 (by rw [upd_same]; simp) (by rw [Sm.lines]; unfold partL; simp)
    | cho hh y z =>
      simp only [Sm.good, Bool.and_eq_true, decide_eq_true_eq] at hgs
      have hpy : Sm.pls y ≤ 1000 := by simp only [Sm.pl] at hspl; omega
      have hpz : Sm.pls z ≤ 1000 := by simp only [Sm.pl] at hspl; omega
      obtain ⟨p2, u1, u2, u3, e, hs2, h1, h2, h3⟩ := dp_t3 de
      cases e
      have lpy := part_len (d + 1) y
      have lpz := part_len (d + 1) z
      refine i_itf rfl ?_
      walk_at "st"
      refine i_ix0 (Same.tup s2 hps) ?_
      walk_at "st"
      refine i_itf (hand_no hh).2.2.1 ?_
      walk_at "st"
      refine i_itf rfl ?_
      walk_at "st"
      refine i_ix0 (Same.tup s2 hps) ?_
      walk_at "st"
      refine i_inT (T.t_HANDS _) rfl rfl ?_
      walk_at "st"
      refine i_ite (hw_hand hh) ?_
      walk_at "st"
      refine i_tyL (.inl (.inl gF2)) ?_
      walk_at "st"
      refine i_ix1 (Same.tup s2 hs2) ?_
      walk_at "st"
      refine i_addE rfl (kc _) (by omega) ?_
      walk_at "st"
      rw [ind_step]
      refine ⟨n - 1, by omega, _, y, d + 1, rfl, dp_mono s2 h2, by omega, hgs.1.2, hpy, fun G3 l s3 hl0 hl => ?_⟩
      walk_at "st"
      refine i_addE rfl (kc _) (by omega) ?_
      walk_at "st"
      refine i_new (by simp) fun t4 ht4 => ?_
      refine i_catL ((Same.new ht4) _ _ hl) upd_same (by simp only [List.length_map, List.length_append, List.length_cons, List.length_nil]; omega) fun t5 ht5 => ?_
      walk_at "st"
      have s5 := Same.grow (o := .lst ((partL (d + 1) y).map sV ++ [.str (mk (ind d ++ cs "or"))])) (Same.grow (o := .lst [.str (mk (ind d ++ cs "or"))]) (Same.trans s2 s3) ht4) ht5
      have g5 : upd (upd G3 t4 (.lst [.str (mk (ind d ++ cs "or"))])) t5 (.lst ((partL (d + 1) y).map sV ++ [.str (mk (ind d ++ cs "or"))])) F = some (.lst ((Sm.liness d (b.take j) ++ [ind d ++ liL (.cho hh y z)]).map sV)) := (Same.new ht5) _ _ ((Same.new ht4) _ _ (s3 _ _ gF2))
      refine i_extend g5 upd_same (by simp only [List.length_map, List.length_append, List.length_cons, List.length_nil]; omega) ?_
      walk_at "st"
      have s6 := Same.mut (o := .lst ((Sm.liness d (b.take j) ++ [ind d ++ liL (.cho hh y z)]).map sV ++ ((partL (d + 1) y).map sV ++ [.str (mk (ind d ++ cs "or"))]))) s5 hF
      refine i_tyL (.inl (.inl upd_same)) ?_
      walk_at "st"
      refine i_ix2 (Same.tup s6 hs2) ?_
      walk_at "st"
      refine i_addE rfl (kc _) (by omega) ?_
      walk_at "st"
      rw [ind_step]
      refine ⟨n - 1, by omega, _, z, d + 1, rfl, dp_mono s6 h3, by omega, hgs.2, hpz, fun G7 l7 s7 hl07 hl7 => ?_⟩
      walk_at "st"
      refine i_extend (s7 _ _ upd_same) hl7 (by simp only [List.length_map, List.length_append, List.length_cons, List.length_nil]; omega) ?_
      walk_at "st"
      have s8 := Same.mut (o := .lst ((Sm.liness d (b.take j) ++ [ind d ++ liL (.cho hh y z)]).map sV ++ ((partL (d + 1) y).map sV ++ [.str (mk (ind d ++ cs "or"))]) ++ (partL (d + 1) z).map sV)) (Same.trans s6 s7) hF
      refine fin _ (Sm.liness d (b.take j) ++ [ind d ++ liL (.cho hh y z)] ++ (partL (d + 1) y ++ [ind d ++ cs "or"]) ++ partL (d + 1) z) s8 (by rw [upd_same]; simp) (by rw [Sm.lines]; unfold partL; simp)
    | half hh y => cases hok
  · rintro τ G ⟨⟨x3, rfl⟩, sG, gF⟩
    walk_at "st"
    rw [hul, List.take_length] at gF
    exact kk _ F sG hF gF
theorem ok_blkl (T : Txt w K mg) : ∀ n : Nat, Cl P w K mg base CX0 (2 * n + 11) "block_lines" ["block", "ahead"] (sp_blkl (K := K) n)
| 0 => by
  refine ok_blkl0 T 0 10 (by omega) (Cl.up (j := 1) ?_ (by omega)) (Cl.up (j := 1) ?_ (by omega))
  ·
    obtain ⟨fd, F⟩ := T.d_block_lines
    exact ⟨_, fd, T.g_block_lines, F.kp, (FunD.bindsN F (fun _ _ _ _ _ _ us hl => match us, hl with | [_, _], _ => rfl)), F.ok sc_block_lines (fun vs H Q E h => ((show False by obtain ⟨m, e, _⟩ := h; omega)).elim) (fun cdv A outer s H vs Q E hr h => ((show False by obtain ⟨m, e, _⟩ := h; omega)).elim)⟩
  ·
    obtain ⟨fd, F⟩ := T.d_part_lines
    exact ⟨_, fd, T.g_part_lines, F.kp, (FunD.bindsN F (fun _ _ _ _ _ _ us hl => match us, hl with | [_, _], _ => rfl)), F.ok sc_part_lines (fun vs H Q E h => ((show False by obtain ⟨m, e, _⟩ := h; omega)).elim) (fun cdv A outer s H vs Q E hr h => ((show False by obtain ⟨m, e, _⟩ := h; omega)).elim)⟩
| n + 1 => by
  refine ok_blkl0 T (n + 1) (2 * n + 12) (by omega) (((ok_blkl T n).imp fun vs H Q E h => by obtain ⟨m', e, h⟩ := h; obtain rfl : n = m' := (by omega); exact h).up (by omega)) ((ok_partl T n (2 * n + 11) (ok_blkl T n)).imp fun vs H Q E h => by obtain ⟨m', e, h⟩ := h; obtain rfl : n = m' := (by omega); exact h)
end
end K04
/-! text C3 -/
set_option Elab.async false
set_option linter.all false
set_option maxRecDepth 100000
set_option maxHeartbeats 4000000
namespace K04
open PySem PySem.Spec PyProof.Rows L2 TL
local macro_rules
  | `(tactic| walk_at "st") => `(tactic| repeat (with_reducible first
    | refine i_seq ?_ | refine i_ret ?_ | refine i_asg ?_ | refine i_name ?_ | refine i_ifs ?_ | refine i_test ?_ | refine i_B ?_ | refine i_bl ?_ | refine i_var (by with_unfolding_all rfl) ?_ | refine i_c ?_
    | refine i_op ?_ | refine i_un ?_ | refine i_cb ?_ | refine i_cons ?_ | refine i_nil ?_ | refine i_call ?_ | refine i_and ?_ | refine i_or ?_ | refine i_not ?_ | refine i_andV ?_ | refine i_orV ?_ | refine i_notV ?_ | refine i_if ?_
    | refine i_tup ?_ | refine i_lst ?_ | refine i_sl ?_ | refine i_nopart ?_ | refine i_part ?_ | refine i_int ?_ | refine i_chain ?_ | refine i_I0 ?_ | refine i_par ?_ | refine i_two ?_ | refine i_bm ?_ | refine i_bm0 ?_ | refine i_m1 ?_ | refine i_tyS ?_ | refine i_str ?_
    | refine i_for ?_ | refine i_iTup ?_ | refine i_iList ?_ | refine i_iStr ?_ | refine i_iRng1 ?_ | refine i_iRng2 ?_ | refine i_iEnum ?_ | refine i_lc ?_ | refine i_yes ?_ | refine i_revL ?_ | refine i_fld ?_ | refine i_sfld ?_ | refine i_meth ?_ | refine i_make ?_ | refine i_isN ?_ | refine i_notN ?_ | refine i_intB ?_ | refine i_intI ?_
    | refine i_next ?_ | refine i_drop ?_ | refine i_retN ?_ | refine i_gsub ?_ | refine i_ipI ?_ | refine i_aug (by with_unfolding_all rfl) ?_
    | refine i_eq (by with_unfolding_all rfl) ?_ | refine i_ne (by with_unfolding_all rfl) ?_))
abbrev N_program_text : List Str := ["program"]
theorem sc_program_text : FnScope N_program_text ["program"] (defScope s_program_text) := ⟨rfl, rfl, rfl, by decide +kernel, rfl, by decide +kernel, by decide +kernel⟩
section
variable {P : Program} {w : World} {K : PySem.W.Frag} {mg : Str → Option Value} {base : Heap}
def sp_ptext : Sp := fun vs H Q _ => ∃ (v : V) (p : List Sm), vs = [v] ∧ Dp K H v (bpy p) ∧ Prog p ∧ ∀ H', Same H H' → Q (.str (joinT (progL p))) H'
theorem ok_ptext (T : Txt w K mg) : Cl P w K mg base CX0 20 "program_text" ["program"] (sp_ptext (K := K)) := by
  have c_block_lines := ok_blkl (P := P) (base := base) T 4
  obtain ⟨fd, F⟩ := T.d_program_text
  obtain ⟨_, hc_HEAD⟩ := T.c_HEAD
  refine ⟨_, fd, T.g_program_text, F.kp, (FunD.bindsN F (fun _ _ _ _ _ _ us hl => match us, hl with | [_], _ => rfl)), F.ok sc_program_text (fun vs H Q E h => ?len) (fun cdv A outer s H vs Q E hr h => ?run)⟩
  case len =>
    obtain ⟨v, p, rfl, _⟩ := h
    rfl
  refine ⟨_, PSs.nox (pss_one (ps_ret (show PE _ _ (tM1 (rJoin K) _ _) from pe_join pe_str (pe_op op_cat (pe_lst (pa_cons (pe_glob (v := .str "program") rfl hc_HEAD ⟨_, rfl⟩) pa_nil)) (pcl c_block_lines (hr.mono (by omega)) (pa_cons (pv 0) (pa_cons pe_str pa_nil))))))), ?_⟩
  obtain ⟨v, p, rfl, hd, g, k⟩ := h
  obtain ⟨h1, h2⟩ := progL_ok g
  walk_at "st"
  refine i_new (by simp) fun t ht => ?_
  walk_at "st"
  have s1 := Same.new (o := .lst [.str "program"]) ht
  have e0 : Str.ofString "" = mk (ind 0) := kc ""
  rw [e0]
  refine ⟨_, p, 0, rfl, dp_mono s1 hd, rfl, g.good, by have := g.pl; omega, fun G l s2 hl0 hl => ?_⟩
  refine i_catL (s2 _ _ upd_same) hl ?_ fun q hq => ?_
  · rw [List.length_map]
    have : (progL p).length = (Sm.liness 0 p).length + 1 := rfl
    simp only [List.length_cons, List.length_nil]; omega
  walk_at "st"
  have e : [V.str "program"] ++ (Sm.liness 0 p).map sV = ((progL p).map mk).map V.str := by
    show V.str "program" :: _ = V.str (mk (cs "program")) :: _
    rw [← kc, List.map_map]; rfl
  refine i_join (p := q) (ys := (progL p).map mk) (.inl (.inl (by rw [upd_same, e]))) ?_ ?_
  · have := sum_le (k := 300) fun l hl => (h1 l hl).2
    have e2 : Str.length "\n" = 1 := by decide +kernel
    rw [List.length_map, e2]
    omega
  · exact k _ (Same.grow (Same.trans s1 s2) hq)
end
end K04
/-! text D1 -/
set_option Elab.async false
set_option linter.all false
set_option maxRecDepth 100000
set_option maxHeartbeats 4000000
namespace K04
open PySem PySem.Spec PyProof.Rows L2 TL
local macro_rules
  | `(tactic| walk_at "st") => `(tactic| repeat (with_reducible first
    | refine i_seq ?_ | refine i_ret ?_ | refine i_asg ?_ | refine i_name ?_ | refine i_ifs ?_ | refine i_test ?_ | refine i_B ?_ | refine i_bl ?_ | refine i_var (by with_unfolding_all rfl) ?_ | refine i_c ?_
    | refine i_op ?_ | refine i_un ?_ | refine i_cb ?_ | refine i_cons ?_ | refine i_nil ?_ | refine i_call ?_ | refine i_and ?_ | refine i_or ?_ | refine i_not ?_ | refine i_andV ?_ | refine i_orV ?_ | refine i_notV ?_ | refine i_if ?_
    | refine i_tup ?_ | refine i_lst ?_ | refine i_sl ?_ | refine i_nopart ?_ | refine i_part ?_ | refine i_int ?_ | refine i_chain ?_ | refine i_I0 ?_ | refine i_par ?_ | refine i_two ?_ | refine i_bm ?_ | refine i_bm0 ?_ | refine i_m1 ?_ | refine i_tyS ?_ | refine i_str ?_
    | refine i_for ?_ | refine i_iTup ?_ | refine i_iList ?_ | refine i_iStr ?_ | refine i_iRng1 ?_ | refine i_iRng2 ?_ | refine i_iEnum ?_ | refine i_lc ?_ | refine i_yes ?_ | refine i_revL ?_ | refine i_fld ?_ | refine i_sfld ?_ | refine i_meth ?_ | refine i_make ?_ | refine i_isN ?_ | refine i_notN ?_ | refine i_intB ?_ | refine i_intI ?_
    | refine i_next ?_ | refine i_drop ?_ | refine i_retN ?_ | refine i_gsub ?_ | refine i_ipI ?_ | refine i_aug (by with_unfolding_all rfl) ?_
    | refine i_eq (by with_unfolding_all rfl) ?_ | refine i_ne (by with_unfolding_all rfl) ?_))
abbrev N_is_name_texts : List Str := ["text", "sign"]
theorem sc_is_name_texts : FnScope N_is_name_texts ["text"] (defScope s_is_name_texts) := ⟨rfl, rfl, rfl, by decide +kernel, rfl, by decide +kernel, by decide +kernel⟩
abbrev N_integer_of : List Str := ["text", "most", "figures", "sign"]
theorem sc_integer_of : FnScope N_integer_of ["text", "most"] (defScope s_integer_of) := ⟨rfl, rfl, rfl, by decide +kernel, rfl, by decide +kernel, by decide +kernel⟩
section
variable {P : Program} {w : World} {K : PySem.W.Frag} {mg : Str → Option Value} {base : Heap}
def sp_namet : Sp := fun vs H Q _ => ∃ (l : List Nat), vs = [.str (mk l)] ∧ l.length ≤ 90000 ∧ ∀ H', Same H H' → Q (.bl (nameOk l)) H'
theorem figs_p : tl "0123456789" = figs := tl_cs _
theorem lf_p : tl ("abcdefghijklmnopqrstuvwxyz" ++ "0123456789" : Str) = letters ++ figs := by rw [tl_append, lets_p, figs_p]
theorem nameOk_cons (c : Nat) (r : List Nat) : nameOk (c :: r) = (decide ((c :: r).length ≤ 8) && decide (c ∈ letters) && (c :: r).all (fun c => decide (c ∈ letters ++ figs)) && decide ((c :: r) ∉ kept)) := rfl
theorem left_nil (l T : List Nat) : (l.filter fun c => !decide (c ∈ T)).isEmpty = l.all (fun c => decide (c ∈ T)) := by
  rw [Bool.eq_iff_iff, List.isEmpty_iff, List.filter_eq_nil_iff, List.all_eq_true]
  constructor
  · intro h x hx
    have := h x hx
    cases z : decide (x ∈ T) with
    | true => rfl
    | false => rw [z] at this; exact absurd rfl this
  · intro h x hx
    rw [h x hx]; decide
theorem ok_namet (T : Txt w K mg) : Cl P w K mg base CX0 1 "is_name_texts" ["text"] sp_namet := by
  obtain ⟨fd, F⟩ := T.d_is_name_texts
  obtain ⟨_, hc_LETTERS_texts⟩ := T.c_LETTERS_texts
  obtain ⟨_, hc_MAX_NAME⟩ := T.c_MAX_NAME
  obtain ⟨_, hc_FIGURES⟩ := T.c_FIGURES
  refine ⟨_, fd, T.g_is_name_texts, F.kp, (FunD.bindsN F (fun _ _ _ _ _ _ us hl => match us, hl with | [_], _ => rfl)), F.ok sc_is_name_texts (fun vs H Q E h => ?len) (fun cdv A outer s H vs Q E hr h => ?run)⟩
  case len =>
    obtain ⟨l, rfl, _⟩ := h
    rfl
  refine ⟨_, PSs.nox (pss_cons (ps_if (PW.pt (pw_or (pt_not (pt_chain op_le op_le pe_int (pe_callB call_lenX (by rfl) T.f_len (by decide +kernel) (pa_cons (pv 0) pa_nil)) (pe_glob (v := .int 8) rfl hc_MAX_NAME ⟨_, rfl⟩))) (pw_or (pt_cmpR op_notInS (pe_ix ix_str (pv 0) pe_int (fun _ _ => rfl)) (pe_glob (v := .str "abcdefghijklmnopqrstuvwxyz") rfl hc_LETTERS_texts ⟨_, rfl⟩) (by rfl)) (pw_or1 (pt_cmpR op_in_seq (pv 0) (pe_glob (v := .ref _) rfl T.g_KEPT_WORDS rfl) (by rfl)))))) (pss_one (ps_ret pe_bl)) pss_nil)
      (pss_one (ps_ret (pe_cmpR (op_eqN hr.units0) (pe_lc (own := [("sign", 1)]) rfl sc_is_name_texts.nd (pi_str (pv 0)) (blkOk_by (own := [("sign", 1)]) (N := N_is_name_texts) (sc := (defScope s_is_name_texts)) (by decide +kernel)) (fun _ _ _ _ _ => pg_name (i := 1) sc_is_name_texts.nd rfl (Or.inl rfl)) (fun _ _ _ _ _ => (pts_one (pt_cmpR op_notInS (pv 1) (pe_op op_addS (pe_glob (v := .str "abcdefghijklmnopqrstuvwxyz") rfl hc_LETTERS_texts ⟨_, rfl⟩) (pe_glob (v := .str "0123456789") rfl hc_FIGURES ⟨_, rfl⟩)) (by rfl)))) (fun _ _ _ _ _ => (pv 1))) (pe_lst pa_nil) (nomark _))))), ?_⟩
  obtain ⟨l, rfl, hl, k⟩ := h
  have hlen : (mk l).length = l.length := len_mk l
  walk_at "st"
  refine i_lenS (by omega) ?_
  walk_at "st"
  rw [hlen]
  cases l with
  | nil =>
    refine i_itf (decide_eq_false (by simp)) ?_
    walk_at "st"
    refine i_ite rfl ?_
    walk_at "st"
    refine i_ite rfl ?_
    walk_at "st"
    exact k _ (Same.refl _)
  | cons c r =>
    refine i_ite (decide_eq_true (by simp; omega)) ?_
    walk_at "st"
    by_cases h8 : (c :: r).length ≤ 8
    · rw [show decide (((c :: r).length : Int) ≤ 8) = true from decide_eq_true (by omega)]
      refine i_itf rfl ?_
      walk_at "st"
      refine i_ixS (j := 0) (c := c) (by omega) rfl ?_
      walk_at "st"
      refine i_notSign ?_
      walk_at "st"
      rw [lets_p]
      by_cases hc : c ∈ letters
      · rw [decide_eq_true hc]
        refine i_itf rfl ?_
        walk_at "st"
        refine i_inT (T.t_KEPT_WORDS _) rfl rfl ?_
        walk_at "st"
        rw [inV_kept, tl_mk']
        by_cases hk : (c :: r) ∈ kept
        · rw [decide_eq_true hk]
          refine i_ite rfl ?_
          walk_at "st"
          have := k _ (Same.refl _)
          rw [nameOk_cons, decide_eq_true hc, decide_eq_false (p := (c :: r) ∉ kept) (fun z => z hk), Bool.and_false] at this
          exact this
        · rw [decide_eq_false hk]
          refine i_itf rfl ?_
          walk_at "st"
          refine ⟨mk (c :: r), rfl, fun D hD => ?_⟩
          refine lc_signs (z := mk (c :: r)) (i := 1) (T := ("abcdefghijklmnopqrstuvwxyz" ++ "0123456789" : Str)) ?_ ?_ (by omega) ?_ hD (fun H' s e => ?_)
          · exact fun _ => rfl
          · exact fun _ => rfl
          · intro v H1 Q1 q
            walk_at "st"
            exact i_addS (by decide +kernel) q
          walk_at "st"
          refine i_new (by simp) fun p hp => ?_
          refine i_eqNL (.inl (.inl ((Same.new hp) _ _ e))) (.inl (.inl upd_same)) ?_
          have := k _ (Same.grow (o := .lst []) s hp)
          rw [nameOk_cons, decide_eq_true hc, decide_eq_true hk, decide_eq_true h8, Bool.and_true, Bool.and_true, Bool.true_and] at this
          rw [lf_p, tl_mk' (c :: r), List.isEmpty_map, left_nil]
          exact this
      · rw [decide_eq_false hc]
        refine i_ite rfl ?_
        walk_at "st"
        refine i_ite rfl ?_
        walk_at "st"
        have := k _ (Same.refl _)
        rw [nameOk_cons, decide_eq_false hc, Bool.and_false, Bool.false_and, Bool.false_and] at this
        exact this
    · rw [show decide (((c :: r).length : Int) ≤ 8) = false from decide_eq_false (by omega)]
      refine i_ite rfl ?_
      walk_at "st"
      refine i_ite rfl ?_
      walk_at "st"
      have := k _ (Same.refl _)
      rw [nameOk_cons, decide_eq_false h8, Bool.false_and, Bool.false_and, Bool.false_and] at this
      exact this
/-! integer_of -/
def oI : Option Int → V
  | some i => .int i
  | none => .non
def sp_intof : Sp := fun vs H Q _ => ∃ (l : List Nat), vs = [.str (mk l), .int 20] ∧ l.length ≤ 90000 ∧ ∀ H', Same H H' → Q (oI (intOf l 20)) H'
theorem dash1 : cs "-" = [45] := by decide +kernel
theorem zero1 : cs "0" = [48] := by decide +kernel
theorem figs_dig {l : List Nat} (h : (l.filter fun c => !decide (c ∈ figs)).isEmpty = true) : NumText.AllDigits l := by
  rw [left_nil, List.all_eq_true] at h
  intro c hc
  have := of_decide_eq_true (h c hc)
  have e : figs = [48, 49, 50, 51, 52, 53, 54, 55, 56, 57] := by decide +kernel
  rw [e] at this
  simp only [List.mem_cons, List.not_mem_nil, or_false] at this
  omega
theorem ok_intof (T : Txt w K mg) : Cl P w K mg base CX0 1 "integer_of" ["text", "most"] sp_intof := by
  obtain ⟨fd, F⟩ := T.d_integer_of
  obtain ⟨_, hc_FIGURES⟩ := T.c_FIGURES
  refine ⟨_, fd, T.g_integer_of, F.kp, (FunD.bindsN F (fun _ _ _ _ _ _ us hl => match us, hl with | [_, _], _ => rfl)), F.ok sc_integer_of (fun vs H Q E h => ?len) (fun cdv A outer s H vs Q E hr h => ?run)⟩
  case len =>
    obtain ⟨l, rfl, _⟩ := h
    rfl
  refine ⟨_, PSs.nox (pss_cons (ps_set (i := 2) sc_integer_of.nd rfl (by first | exact Or.inl rfl | exact Or.inr rfl) (pe_ifExp (pt_val (pe_bm PySem.F.plainAttrs_str PySem.F.slot_str_startswith PySem.F.type_str_startswith (show MtR _ _ rStarts from mt_startswith) (pv 0) (pa_cons pe_str pa_nil))) (pe_slice sl_str (pv 0) (po_some pe_int) po_none) (pv 0)))
      (pss_cons (ps_if (PW.pt (pw_or (pt_not (pt_chain op_le op_le pe_int (pe_callB call_lenX (by rfl) T.f_len (by decide +kernel) (pa_cons (pv 2) pa_nil)) (pv 1))) (pw_or1 (pt_cmpR (op_neN hr.units0) (pe_lc (own := [("sign", 3)]) rfl sc_integer_of.nd (pi_str (pv 2)) (blkOk_by (own := [("sign", 3)]) (N := N_integer_of) (sc := (defScope s_integer_of)) (by decide +kernel)) (fun _ _ _ _ _ => pg_name (i := 3) sc_integer_of.nd rfl (Or.inl rfl)) (fun _ _ _ _ _ => (pts_one (pt_cmpR op_notInS (pv 3) (pe_glob (v := .str "0123456789") rfl hc_FIGURES ⟨_, rfl⟩) (by rfl)))) (fun _ _ _ _ _ => (pv 3))) (pe_lst pa_nil) (nomark _))))) (pss_one (ps_ret pe_non)) pss_nil)
      (pss_cons (ps_if (PW.pt (pw_and (pt_cmpR op_eq (pe_ix ix_str (pv 2) pe_int (fun _ _ => rfl)) pe_str (nomark _)) (pw_and1 (pt_cmpR op_ne (pv 0) pe_str (nomark _))))) (pss_one (ps_ret pe_non)) pss_nil)
      (pss_one (ps_ret (pe_callTy call_intX (by rfl) T.f_int (by decide +kernel) (pa_cons (pv 0) pa_nil))))))), ?_⟩
  obtain ⟨l, rfl, hl, k⟩ := h
  have hlen : (mk l).length = l.length := len_mk l
  -- what stands behind the sign
  have main : ∀ f : List Nat, f = (if l.head? = some 45 then l.drop 1 else l) → (tSeq (tIfS (tOr (tNot (tTest (tChain (rI0 fun i j => .bl (decide (i ≤ j))) (rI0 fun i j => .bl (decide (i ≤ j))) (tC (.int 1)) (tCB (rLen K) (tCons (tVar 2) tNil)) (tVar 1)))) (tTest (tOp (rNeN K) (tLc (iStr (tVar 2)) (gName 3) (tTest (tOp rNotInS (tVar 3) (tC (.str "0123456789")))) (tVar 3) [3]) (tLst tNil))))
      (tRet (tC .non)) tNext) (tSeq (tIfS (tAnd (tTest (tOp rEq (tOp rIxS (tVar 2) (tC (.int 0))) (tC (.str "0")))) (tTest (tOp rNe (tVar 0) (tC (.str "0"))))) (tRet (tC .non)) tNext) (tRet (tCB rInt (tCons (tVar 0) tNil))))) { nx := fun _ H' => Q .non H', rt := Q } [some (.str (mk l)), some (.int 20), some (.str (mk f)), none] H := by
    intro f hf
    have hfl : f.length ≤ l.length := by
      rw [hf]; split
      · rw [List.length_drop]; omega
      · exact Nat.le_refl _
    have hfm : (mk f).length = f.length := len_mk f
    have ei : intOf l 20 = if !(decide (1 ≤ f.length) && decide (f.length ≤ 20)) || !(f.filter (fun c => !decide (c ∈ figs))).isEmpty then none
      else if f.head? = some 48 ∧ l ≠ [48] then none else some (if l.head? = some 45 then -((NumText.digitsVal f : Nat) : Int) else (NumText.digitsVal f : Nat)) := by subst hf; rfl
    walk_at "st"
    refine i_lenS (by omega) ?_
    walk_at "st"
    rw [hfm]
    cases f with
    | nil =>
      refine i_itf (decide_eq_false (by simp)) ?_
      walk_at "st"
      refine i_ite rfl ?_
      walk_at "st"
      refine i_ite rfl ?_
      walk_at "st"
      have := k _ (Same.refl _)
      rw [ei] at this
      exact this
    | cons c r =>
      refine i_ite (decide_eq_true (by simp; omega)) ?_
      walk_at "st"
      by_cases h20 : (c :: r).length ≤ 20
      · rw [show decide (((c :: r).length : Int) ≤ 20) = true from decide_eq_true (by omega)]
        refine i_itf rfl ?_
        walk_at "st"
        refine ⟨mk (c :: r), rfl, fun D hD => ?_⟩
        refine lc_signs (z := mk (c :: r)) (i := 3) (T := "0123456789") ?_ ?_ (by omega) ?_ hD (fun H' s e => ?_)
        · exact fun _ => rfl
        · exact fun _ => rfl
        · exact fun v H1 Q1 q => q
        walk_at "st"
        refine i_new (by simp) fun p hp => ?_
        refine i_neNL (.inl (.inl ((Same.new hp) _ _ e))) (.inl (.inl upd_same)) ?_
        walk_at "st"
        have hz0 : ((((tl (mk (c :: r))).filter fun c => !decide (c ∈ tl "0123456789")).map signV).isEmpty) = ((c :: r).filter fun c => !decide (c ∈ figs)).isEmpty := by rw [figs_p, tl_mk' (c :: r), List.isEmpty_map]
        rw [hz0]
        have sE := Same.grow (o := .lst []) s hp
        have kE := k _ sE
        rw [ei, decide_eq_true h20, decide_eq_true (show 1 ≤ (c :: r).length by simp)] at kE
        cases hz : ((c :: r).filter fun c => !decide (c ∈ figs)).isEmpty with
        | false =>
          rw [hz] at kE
          refine i_ite rfl ?_
          walk_at "st"
          exact kE
        | true =>
          rw [hz, if_neg (by decide)] at kE
          refine i_itf rfl ?_
          walk_at "st"
          refine i_ixS (j := 0) (c := c) (by omega) rfl ?_
          walk_at "st"
          rw [show (V.str ⟨#[c]⟩) = V.str (mk [c]) from rfl, dec_kc, zero1]
          have dg := figs_dig hz
          have fin : (¬ (c = 48 ∧ l ≠ [48])) → rInt [.str (mk l)] (upd H' p (.lst [])) Q := by
            intro hn
            by_cases hm : l.head? = some 45
            · have el : l = 45 :: (c :: r) := by
                rw [if_pos hm] at hf
                cases l with
                | nil => cases hm
                | cons a b => cases hm; rw [hf]; rfl
              refine i_intS (i := -((NumText.digitsVal (c :: r) : Nat) : Int)) (PySem.intText_neg (by show tl (mk l) = _; rw [tl_mk', el]) dg (by simp) (by rw [hlen, el]; simp only [List.length_cons] at h20 ⊢; omega)) (by rw [hlen, el]; simp only [List.length_cons] at h20 ⊢; omega) ?_
              rw [if_neg (fun z => hn ⟨Option.some.inj z.1, z.2⟩), if_pos hm] at kE
              exact kE
            · have el : l = c :: r := by rw [if_neg hm] at hf; exact hf.symm
              refine i_intS (i := ((NumText.digitsVal (c :: r) : Nat) : Int)) (by rw [← tl_mk' (c :: r), ← el]; exact PySem.intText_digits (by show NumText.AllDigits (tl (mk l)); rw [tl_mk', el]; exact dg) (by show tl (mk l) ≠ []; rw [tl_mk', el]; simp) (by rw [hlen, el]; omega)) (by rw [hlen, el]; omega) ?_
              rw [if_neg (fun z => hn ⟨Option.some.inj z.1, z.2⟩), if_neg hm] at kE
              exact kE
          by_cases h0 : c = 48
          · rw [show decide ([c] = [48]) = true from decide_eq_true (by rw [h0])]
            refine i_ite rfl ?_
            walk_at "st"
            rw [dec_kc, zero1]
            by_cases hl48 : l = [48]
            · rw [decide_eq_true hl48]
              refine i_itf rfl ?_
              walk_at "st"
              exact fin (fun z => z.2 hl48)
            · rw [decide_eq_false hl48]
              refine i_ite rfl ?_
              walk_at "st"
              rw [if_pos ⟨by rw [h0]; rfl, hl48⟩] at kE
              exact kE
          · rw [show decide ([c] = [48]) = false from decide_eq_false (fun z => h0 (List.cons.inj z).1)]
            refine i_itf rfl ?_
            walk_at "st"
            refine i_itf rfl ?_
            walk_at "st"
            exact fin (fun z => h0 z.1)
      · rw [show decide (((c :: r).length : Int) ≤ 20) = false from decide_eq_false (by omega)]
        refine i_ite rfl ?_
        walk_at "st"
        refine i_ite rfl ?_
        walk_at "st"
        have := k _ (Same.refl _)
        rw [ei, decide_eq_false h20, Bool.and_false] at this
        exact this
  walk_at "st"
  refine i_starts (by rw [dash1]; simp) ?_
  rw [dash1]
  have eh : (l.take [45].length = [45]) ↔ l.head? = some 45 := by
    cases l with
    | nil => simp
    | cons a b => simp
  by_cases hm : l.head? = some 45
  · rw [decide_eq_true (eh.mpr hm)]
    walk_at "st"
    refine i_ite rfl ?_
    walk_at "st"
    refine i_slS (by omega) ?_
    rw [show (some (1 : Int)) = some ((1 : Nat) : Int) from rfl, cutS_from, tl_mk']
    exact main _ (by rw [if_pos hm])
  · rw [decide_eq_false (fun z => hm (eh.mp z))]
    walk_at "st"
    refine i_itf rfl ?_
    refine i_var rfl ?_
    exact main _ (by rw [if_neg hm])
end
end K04
/-! text D2 -/
set_option Elab.async false
set_option linter.all false
set_option maxRecDepth 100000
set_option maxHeartbeats 4000000
namespace K04
open PySem PySem.Spec PyProof.Rows L2 TL
local macro_rules
  | `(tactic| walk_at "st") => `(tactic| repeat (with_reducible first
    | refine i_seq ?_ | refine i_ret ?_ | refine i_asg ?_ | refine i_name ?_ | refine i_ifs ?_ | refine i_test ?_ | refine i_B ?_ | refine i_bl ?_ | refine i_var (by with_unfolding_all rfl) ?_ | refine i_c ?_
    | refine i_op ?_ | refine i_un ?_ | refine i_cb ?_ | refine i_cons ?_ | refine i_nil ?_ | refine i_call ?_ | refine i_and ?_ | refine i_or ?_ | refine i_not ?_ | refine i_andV ?_ | refine i_orV ?_ | refine i_notV ?_ | refine i_if ?_
    | refine i_tup ?_ | refine i_lst ?_ | refine i_sl ?_ | refine i_nopart ?_ | refine i_part ?_ | refine i_int ?_ | refine i_chain ?_ | refine i_I0 ?_ | refine i_par ?_ | refine i_two ?_ | refine i_bm ?_ | refine i_bm0 ?_ | refine i_m1 ?_ | refine i_tyS ?_ | refine i_str ?_
    | refine i_for ?_ | refine i_iTup ?_ | refine i_iList ?_ | refine i_iStr ?_ | refine i_iRng1 ?_ | refine i_iRng2 ?_ | refine i_iEnum ?_ | refine i_lc ?_ | refine i_yes ?_ | refine i_revL ?_ | refine i_fld ?_ | refine i_sfld ?_ | refine i_meth ?_ | refine i_make ?_ | refine i_isN ?_ | refine i_notN ?_ | refine i_intB ?_ | refine i_intI ?_
    | refine i_next ?_ | refine i_drop ?_ | refine i_retN ?_ | refine i_gsub ?_ | refine i_ipI ?_ | refine i_aug (by with_unfolding_all rfl) ?_
    | refine i_eq (by with_unfolding_all rfl) ?_ | refine i_ne (by with_unfolding_all rfl) ?_))
abbrev N_sum_at : List Str := ["text", "at", "deep", "left", "one", "end", "word", "right"]
theorem sc_sum_at : FnScope N_sum_at ["text", "at", "deep"] (defScope s_sum_at) := ⟨rfl, rfl, rfl, by decide +kernel, rfl, by decide +kernel, by decide +kernel⟩
abbrev N_expression_at : List Str := ["text", "at", "deep", "end", "number"]
theorem sc_expression_at : FnScope N_expression_at ["text", "at", "deep"] (defScope s_expression_at) := ⟨rfl, rfl, rfl, by decide +kernel, rfl, by decide +kernel, by decide +kernel⟩
abbrev N_expression_of : List Str := ["text", "found"]
theorem sc_expression_of : FnScope N_expression_of ["text"] (defScope s_expression_of) := ⟨rfl, rfl, rfl, by decide +kernel, rfl, by decide +kernel, by decide +kernel⟩
def sumAt (f : Nat) (l : List Nat) (i : Nat) : Option (Ex × Nat) :=
  match exAt f l (i + 1) with
  | none => none
  | some (one, e) => match opOf ((l.drop e).take 3) with
    | none => none
    | some o => if o = .times ∧ one.isNum = false then none else
      match exAt f l (e + 3) with
      | none => none
      | some (r, e2) => if (l.drop e2).take 1 = [41] then some (.bin o one r, e2 + 1) else none
theorem exAt_par {f : Nat} {l : List Nat} {i : Nat} (h : (l.drop i).take 1 = [40]) : exAt (f + 1) l i = sumAt f l i := by
  rw [exAt, if_pos h] <;> rfl
theorem exAt_tok {f : Nat} {l : List Nat} {i : Nat} (h : (l.drop i).take 1 ≠ [40]) : exAt (f + 1) l i = (match intOf ((l.drop i).takeWhile inTok) 20 with
      | some n => some (.num n, endAt l i)
      | none => if nameOk ((l.drop i).takeWhile inTok) then some (.nam (mk ((l.drop i).takeWhile inTok)), endAt l i) else none) := by
  rw [exAt, if_neg h] <;> rfl
theorem tok_notIn (c : Nat) : inV (.str ⟨#[c]⟩) [.str " ", .str ")", .str "("] = !inTok c := by
  have e : ∀ (s : String) (k : Nat), cs s = [k] → (eqV (.str (Str.ofString s)) (.str ⟨#[c]⟩)) = (c == k) := fun s k hs => by
    show (Str.ofString s == (mk [c])) = _
    rw [kc, hs, Bool.eq_iff_iff, beq_iff_eq, beq_iff_eq]
    constructor
    · intro h; exact (List.cons.inj (mk_inj h)).1.symm
    · intro h; rw [h]
  show (eqV (.str (Str.ofString " ")) (.str ⟨#[c]⟩) || (eqV (.str (Str.ofString ")")) (.str ⟨#[c]⟩) || (eqV (.str (Str.ofString "(")) (.str ⟨#[c]⟩) || false))) = _
  rw [e " " 32 (by decide +kernel), e ")" 41 (by decide +kernel), e "(" 40 (by decide +kernel)]
  unfold inTok
  cases c == 32 <;> cases c == 41 <;> cases c == 40 <;> rfl
theorem par1 : cs "(" = [40] ∧ cs ")" = [41] := by decide +kernel
theorem wtimes : ∀ o : Op3, decide (V.str o.word = .str "times") = decide (o = .times) := opw_eq
theorem wempty : ∀ o : Op3, decide (V.str o.word = .str "") = false := by intro o; cases o <;> decide +kernel
section
variable {P : Program} {w : World} {K : PySem.W.Frag} {mg : Str → Option Value} {base : Heap}
def EGives (K : PySem.W.Frag) (H : Hp) (Q : VK) (r : Option (Ex × Nat)) : Prop := ∀ H', Same H H' → (r = none → Q .non H') ∧ ∀ e n, r = some (e, n) → ∀ p u, H' p = some (.tup [u, .int (n : Int)]) → Dp K H' u e.py → Q (.ref p) H'
def sp_exat (f : Nat) : Sp := fun vs H Q _ => ∃ (l : List Nat) (i : Nat) (a d : Int), vs = [.str (mk l), .int a, .int d] ∧ a = (i : Int) ∧ d = 21 - (f : Int) ∧ l.length ≤ 90000 ∧ i ≤ 95000 ∧ EGives K H Q (exAt f l i)
def sp_sumat (f : Nat) : Sp := fun vs H Q _ => ∃ (l : List Nat) (i : Nat) (a d : Int), vs = [.str (mk l), .int a, .int d] ∧ a = (i : Int) ∧ d = 20 - (f : Int) ∧ l.length ≤ 90000 ∧ i ≤ l.length ∧ EGives K H Q (sumAt f l i)
theorem exAt_end : ∀ (f : Nat) (l : List Nat) (i : Nat) (e : Ex) (n : Nat), i ≤ l.length → exAt f l i = some (e, n) → n ≤ l.length
  | 0, _, _, _, _, _, h => by cases h
  | f + 1, l, i, e, n, hi, h => by
    by_cases hp : (l.drop i).take 1 = [40]
    · rw [exAt_par hp] at h
      unfold sumAt at h
      split at h
      · cases h
      · split at h
        · cases h
        · split at h
          · cases h
          · split at h
            · cases h
            · rename_i r e2 _
              split at h
              · rename_i h1
                cases h
                have := congrArg List.length h1
                rw [List.length_take, List.length_drop] at this
                simp at this
                omega
              · cases h
    · rw [exAt_tok hp] at h
      have hend : endAt l i ≤ l.length := by
        unfold endAt
        have := (List.takeWhile_sublist inTok (l := l.drop i)).length_le
        rw [List.length_drop] at this
        omega
      split at h
      · cases h; exact hend
      · split at h
        · cases h; exact hend
        · cases h
theorem ex_isint {H : Hp} {u : V} {e : Ex} (h : Dp K H u e.py) : ∃ t, TyX K H u (.type t) ∧ kitB t "int" = some e.isNum := by
  cases e with
  | num i => obtain rfl := dp_int h; exact ⟨"int", .base (.int _), by (show _ = some true); decide +kernel⟩
  | nam x => obtain rfl := dp_str h; exact ⟨"str", .base (.str _), by (show _ = some false); decide +kernel⟩
  | bin o a b =>
    obtain ⟨p, xs, rfl, hs, _⟩ := dp_tup h
    exact ⟨"tuple", ty_tup hs, by (show _ = some false); decide +kernel⟩
theorem kg {K : PySem.W.Frag} {w : World} {td tk tx : TE} {σ : L2.St} {H : Hp} {Q : VK} (q : td σ H fun x H1 => ∃ d, x = .ref d ∧ (∃ es n, KDict K w d es n) ∧ tk σ H1 fun y H2 => tx σ H2 fun z H3 =>
  ∃ kk r, y = .str kk ∧ PySem.W.nsIn K d kk = some r ∧ ((∃ u v, r = some u ∧ L2.RelV v u ∧ Q v H3) ∨ (r = none ∧ Q z H3))) : tKGet K w td tk tx σ H Q := q
theorem ok_sumat (T : Txt w K mg) (f k : Nat) (c_expression_at : Cl P w K mg base CX0 k "expression_at" ["text", "at", "deep"] (sp_exat (K := K) f)) : Cl P w K mg base CX0 (k + 1) "sum_at" ["text", "at", "deep"] (sp_sumat (K := K) f) := by
  obtain ⟨fd, F⟩ := T.d_sum_at
  refine ⟨_, fd, T.g_sum_at, F.kp, (FunD.bindsN F (fun _ _ _ _ _ _ us hl => match us, hl with | [_, _, _], _ => rfl)), F.ok sc_sum_at (fun vs H Q E h => ?len) (fun cdv A outer s H vs Q E hr h => ?run)⟩
  case len =>
    obtain ⟨l, i, a, d, rfl, _⟩ := h
    rfl
  refine ⟨_, PSs.nox (pss_cons (ps_set (i := 3) sc_sum_at.nd rfl (by first | exact Or.inl rfl | exact Or.inr rfl) (pcl c_expression_at (hr.mono (by omega)) (pa_cons (pv 0) (pa_cons (pe_op op_add (pv 1) pe_int) (pa_cons (pe_op op_add (pv 2) pe_int) pa_nil)))))
      (pss_cons (ps_if (pt_cmpR op_isN1 (pv 3) pe_non (nomark _)) (pss_one (ps_ret pe_non)) pss_nil)
      (pss_cons (ps_asg (pv 3) (pg_tup rfl (pgs_cons (pg_name (i := 4) sc_sum_at.nd rfl (by first | exact Or.inl rfl | exact Or.inr rfl)) (pgs_cons (pg_name (i := 5) sc_sum_at.nd rfl (by first | exact Or.inl rfl | exact Or.inr rfl)) pgs_nil))))
      (pss_cons (ps_set (i := 6) sc_sum_at.nd rfl (by first | exact Or.inl rfl | exact Or.inr rfl) (pe_kget (pe_glob (v := .ref _) rfl T.g_WORDS rfl) (pe_slice sl_str (pv 0) (po_some (pv 5)) (po_some (pe_op op_add (pv 5) pe_int))) pe_str ⟨rfl, rfl, rfl, rfl⟩))
      (pss_cons (ps_if (PW.pt (pw_or (pt_cmpR op_eq (pv 6) pe_str (nomark _)) (pw_or1 (PW.pt (pw_and (pt_cmpR op_eq (pv 6) pe_str (nomark _)) (pw_and1 (pt_not (pt_val (pe_callB call_isi (by rfl) T.f_isinstance (by decide +kernel) (pa_cons (pv 4) (pa_cons (pe_bltn (v := .ty "int") rfl T.f_int boot_int rfl) pa_nil))))))))))) (pss_one (ps_ret pe_non)) pss_nil)
      (pss_cons (ps_set (i := 7) sc_sum_at.nd rfl (by first | exact Or.inl rfl | exact Or.inr rfl) (pcl c_expression_at (hr.mono (by omega)) (pa_cons (pv 0) (pa_cons (pe_op op_add (pv 5) pe_int) (pa_cons (pe_op op_add (pv 2) pe_int) pa_nil)))))
      (pss_cons (ps_if (PW.pt (pw_or (pt_cmpR op_isN1 (pv 7) pe_non (nomark _)) (pw_or1 (pt_cmpR op_ne (pe_slice sl_str (pv 0) (po_some (pe_ix ix_tup (pv 7) pe_int (fun _ _ => rfl))) (po_some (pe_op op_add (pe_ix ix_tup (pv 7) pe_int (fun _ _ => rfl)) pe_int))) pe_str (nomark _))))) (pss_one (ps_ret pe_non)) pss_nil)
      (pss_one (ps_ret (pe_tup (pa_cons (pe_tup (pa_cons (pv 6) (pa_cons (pv 4) (pa_cons (pe_ix ix_tup (pv 7) pe_int (fun _ _ => rfl)) pa_nil)))) (pa_cons (pe_op op_add (pe_ix ix_tup (pv 7) pe_int (fun _ _ => rfl)) pe_int) pa_nil)))))))))))), ?_⟩
  obtain ⟨l, i, a, d, rfl, rfl, rfl, hl, hi, kk⟩ := h
  have hlen : (mk l).length = l.length := len_mk l
  walk_at "st"
  refine ⟨l, i + 1, _, _, rfl, by omega, by omega, hl, by omega, fun H1 s1 => ⟨fun en => ?_, fun one e1 ee p u hp hu => ?_⟩⟩
  · walk_at "st"
    refine i_ite rfl ?_
    walk_at "st"
    exact (kk _ s1).1 (by unfold sumAt; rw [en])
  have he1 : e1 ≤ 90000 := by
    by_cases hi2 : i + 1 ≤ l.length
    · have := exAt_end f l (i + 1) one e1 hi2 ee; omega
    · exfalso
      have hd : l.drop (i + 1) = [] := List.drop_of_length_le (by omega)
      cases f with
      | zero => cases ee
      | succ f =>
        rw [exAt_tok (by rw [hd]; simp), hd] at ee
        have e5 : intOf [] 20 = none := by decide +kernel
        have e6 : nameOk [] = false := rfl
        simp only [List.takeWhile_nil, e5, e6] at ee
        cases ee
  walk_at "st"
  refine i_itf rfl ?_
  walk_at "st"
  refine i_gtup (.inl (.inl hp)) rfl ?_
  refine i_gcons ?_
  walk_at "st"
  refine i_gcons ?_
  walk_at "st"
  refine i_gnil ?_
  walk_at "st"
  refine kg ?_
  walk_at "st"
  refine ⟨_, rfl, T.kd_WORDS, ?_⟩
  walk_at "st"
  refine i_slS (by omega) ?_
  rw [show ((e1 : Int) + 3) = ((e1 + 3 : Nat) : Int) by omega, cutS_at _ _ _ (by omega), tl_mk', show e1 + 3 - e1 = 3 by omega]
  walk_at "st"
  obtain ⟨r, hr, hr2⟩ := wrd_of T ((l.drop e1).take 3)
  refine ⟨_, r, rfl, hr, ?_⟩
  rcases hr2 with ⟨o, uu, ho, rfl, hrel⟩ | ⟨ho, rfl⟩
  rotate_left
  · refine .inr ⟨rfl, ?_⟩
    walk_at "st"
    refine i_ite rfl ?_
    refine i_ite rfl ?_
    walk_at "st"
    exact (kk _ s1).1 (by unfold sumAt; rw [ee]; simp only [ho])
  refine .inl ⟨uu, _, rfl, hrel, ?_⟩
  walk_at "st"
  rw [wempty]
  refine i_itf rfl ?_
  walk_at "st"
  rw [wtimes]
  obtain ⟨t, ty, hk⟩ := ex_isint hu
  have rest : ¬ (o = .times ∧ one.isNum = false) → tSeq (tAsg (tCall (sp_exat (K := K) f) [] E0 (tCons (tVar 0) (tCons (tOp (rI0 fun i j => .int (i + j)) (tVar 5) (tC (.int 3))) (tCons (tOp (rI0 fun i j => .int (i + j)) (tVar 2) (tC (.int 1))) tNil)))) (gName 7))
      (tSeq (tIfS (tOr (tTest (tOp rIsN (tVar 7) (tC .non))) (tTest (tOp rNe (tSl rSlS (tVar 0) (tPart (tOp (rIxT K) (tVar 7) (tC (.int 1)))) (tPart (tOp (rI0 fun i j => .int (i + j)) (tOp (rIxT K) (tVar 7) (tC (.int 1))) (tC (.int 1))))) (tC (.str ")"))))) (tRet (tC .non)) tNext)
      (tRet (tTup (tCons (tTup (tCons (tVar 6) (tCons (tVar 4) (tCons (tOp (rIxT K) (tVar 7) (tC (.int 0))) tNil)))) (tCons (tOp (rI0 fun i j => .int (i + j)) (tOp (rIxT K) (tVar 7) (tC (.int 1))) (tC (.int 1))) tNil)))))
      { nx := fun _ H' => Q .non H', rt := Q } [some (.str (mk l)), some (.int (i : Int)), some (.int (20 - (f : Int))), some (.ref p), some u, some (.int (e1 : Int)), some (.str o.word), none] H1 := by
    intro hno
    walk_at "st"
    refine ⟨l, e1 + 3, _, _, rfl, by omega, by omega, hl, by omega, fun H2 s2 => ⟨fun en => ?_, fun r e2 ee2 p2 u2 hp2 hu2 => ?_⟩⟩
    · walk_at "st"
      refine i_ite rfl ?_
      refine i_ite rfl ?_
      walk_at "st"
      exact (kk _ (Same.trans s1 s2)).1 (by unfold sumAt; rw [ee]; simp only [ho]; rw [if_neg hno, en])
    walk_at "st"
    refine i_itf rfl ?_
    walk_at "st"
    refine i_ix1 (.inl (.inl hp2)) ?_
    walk_at "st"
    refine i_ix1 (.inl (.inl hp2)) ?_
    walk_at "st"
    refine i_slS (by omega) ?_
    rw [show ((e2 : Int) + 1) = ((e2 + 1 : Nat) : Int) by omega, cutS_at _ _ _ (by omega), tl_mk', show e2 + 1 - e2 = 1 by omega]
    walk_at "st"
    rw [dec_kc, par1.2]
    by_cases h41 : (l.drop e2).take 1 = [41]
    · rw [decide_eq_true h41]
      refine i_itf rfl ?_
      walk_at "st"
      refine i_ix0 (.inl (.inl hp2)) ?_
      walk_at "st"
      refine i_new (by simp) fun q hq => ?_
      walk_at "st"
      refine i_ix1 (.inl (.inl ((Same.new hq) _ _ hp2))) ?_
      walk_at "st"
      refine i_new (by simp) fun q2 hq2 => ?_
      have s3 := Same.grow (o := .tup [.str o.word, u, u2]) (Same.refl H2) hq
      have s4 := Same.grow (o := .tup [.ref q, .int ((e2 : Int) + 1)]) s3 hq2
      have hq3 : q ≠ q2 := ne_of_none upd_same hq2
      refine (kk _ (Same.trans (Same.trans s1 s2) s4)).2 (.bin o one r) (e2 + 1) (by unfold sumAt; rw [ee]; simp only [ho]; rw [if_neg hno, ee2]; simp only []; rw [if_pos h41]) q2 (.ref q) (by rw [upd_same]; rfl) ?_
      exact dp_of3 (by rw [upd_ne hq3, upd_same]) (.str _) (dp_mono (Same.trans s2 s4) hu) (dp_mono s4 hu2)
    · rw [decide_eq_false h41]
      refine i_ite rfl ?_
      walk_at "st"
      exact (kk _ (Same.trans s1 s2)).1 (by unfold sumAt; rw [ee]; simp only [ho]; rw [if_neg hno, ee2]; simp only []; rw [if_neg h41])
  by_cases ht : o = .times
  · rw [decide_eq_true ht]
    refine i_ite rfl ?_
    walk_at "st"
    refine r_isi ty (kit_ty (K := K) hk) ?_
    walk_at "st"
    cases hn : one.isNum with
    | true =>
      refine i_itf rfl ?_
      exact rest (fun z => by rw [hn] at z; cases z.2)
    | false =>
      refine i_ite rfl ?_
      walk_at "st"
      exact (kk _ s1).1 (by unfold sumAt; rw [ee]; simp only [ho]; rw [if_pos ⟨ht, hn⟩])
  · rw [decide_eq_false ht]
    refine i_itf rfl ?_
    refine i_itf rfl ?_
    exact rest (fun z => ht z.1)
theorem tok_len (l : List Nat) (i : Nat) : ((l.drop i).takeWhile inTok).length ≤ l.length - i := by
  have := (List.takeWhile_sublist inTok (l := l.drop i)).length_le
  rw [List.length_drop] at this; exact this
theorem ok_exat0 (T : Txt w K mg) (f k : Nat) (h1k : 1 ≤ k) (c_sum_at : Cl P w K mg base CX0 k "sum_at" ["text", "at", "deep"] (fun vs H Q E => ∃ g, f = g + 1 ∧ sp_sumat (K := K) g vs H Q E)) : Cl P w K mg base CX0 (k + 1) "expression_at" ["text", "at", "deep"] (sp_exat (K := K) f) := by
  have c_integer_of := ok_intof (P := P) (base := base) T
  have c_is_name_texts := ok_namet (P := P) (base := base) T
  obtain ⟨fd, F⟩ := T.d_expression_at
  obtain ⟨_, hc_MOST_DEEP⟩ := T.c_MOST_DEEP
  obtain ⟨_, hc_MOST_FIGURES⟩ := T.c_MOST_FIGURES
  refine ⟨_, fd, T.g_expression_at, F.kp, (FunD.bindsN F (fun _ _ _ _ _ _ us hl => match us, hl with | [_, _, _], _ => rfl)), F.ok sc_expression_at (fun vs H Q E h => ?len) (fun cdv A outer s H vs Q E hr h => ?run)⟩
  case len =>
    obtain ⟨l, i, a, d, rfl, _⟩ := h
    rfl
  refine ⟨_, PSs.nox (pss_cons (ps_if (pt_cmpR op_gt (pv 2) (pe_glob (v := .int 20) rfl hc_MOST_DEEP ⟨_, rfl⟩) (nomark _)) (pss_one (ps_ret pe_non)) pss_nil)
      (pss_cons (ps_if (pt_cmpR op_eq (pe_slice sl_str (pv 0) (po_some (pv 1)) (po_some (pe_op op_add (pv 1) pe_int))) pe_str (nomark _)) (pss_one (ps_ret (pcl c_sum_at (hr.mono (by omega)) (pa_cons (pv 0) (pa_cons (pv 1) (pa_cons (pv 2) pa_nil)))))) pss_nil)
      (pss_cons (ps_set (i := 3) sc_expression_at.nd rfl (by first | exact Or.inl rfl | exact Or.inr rfl) (pv 1))
      (pss_cons (ps_while PassesOwn.never (PW.pt (pw_and (pt_cmpR op_lt (pv 3) (pe_callB call_lenX (by rfl) T.f_len (by decide +kernel) (pa_cons (pv 0) pa_nil)) (nomark _)) (pw_and1 (pt_cmpR op_notIn_seq (pe_ix ix_str (pv 0) (pv 3) (fun _ _ => rfl)) (pe_tup (pa_cons pe_str (pa_cons pe_str (pa_cons pe_str pa_nil)))) (by rfl))))) (pss_one (ps_aug (i := 3) sc_expression_at.nd rfl (by first | exact Or.inl rfl | exact Or.inr rfl) pe_int ip_add)))
      (pss_cons (ps_set (i := 4) sc_expression_at.nd rfl (by first | exact Or.inl rfl | exact Or.inr rfl) (pcl c_integer_of (hr.mono (by omega)) (pa_cons (pe_slice sl_str (pv 0) (po_some (pv 1)) (po_some (pv 3))) (pa_cons (pe_glob (v := .int 20) rfl hc_MOST_FIGURES ⟨_, rfl⟩) pa_nil))))
      (pss_cons (ps_if (pt_cmpR op_notN1 (pv 4) pe_non (nomark _)) (pss_one (ps_ret (pe_tup (pa_cons (pv 4) (pa_cons (pv 3) pa_nil))))) pss_nil)
      (pss_one (ps_ret (pe_ifExp (pt_val (pcl c_is_name_texts (hr.mono (by omega)) (pa_cons (pe_slice sl_str (pv 0) (po_some (pv 1)) (po_some (pv 3))) pa_nil))) (pe_tup (pa_cons (pe_slice sl_str (pv 0) (po_some (pv 1)) (po_some (pv 3))) (pa_cons (pv 3) pa_nil))) pe_non))))))))), ?_⟩
  obtain ⟨l, i, a, d, rfl, rfl, rfl, hl, hi, kk⟩ := h
  have hlen : (mk l).length = l.length := len_mk l
  walk_at "st"
  cases f with
  | zero =>
    refine i_ite (decide_eq_true (by omega)) ?_
    walk_at "st"
    exact (kk _ (Same.refl _)).1 rfl
  | succ f =>
    refine i_itf (decide_eq_false (by omega)) ?_
    walk_at "st"
    refine i_slS (by omega) ?_
    rw [show ((i : Int) + 1) = ((i + 1 : Nat) : Int) by omega, cutS_at _ _ _ (by omega), tl_mk', show i + 1 - i = 1 by omega]
    walk_at "st"
    rw [dec_kc, par1.1]
    by_cases hp : (l.drop i).take 1 = [40]
    · rw [decide_eq_true hp]
      refine i_ite rfl ?_
      walk_at "st"
      refine ⟨f, rfl, l, i, _, _, rfl, rfl, by omega, hl, ?_, ?_⟩
      · have := congrArg List.length hp
        rw [List.length_take, List.length_drop] at this
        simp at this
        omega
      · rw [← exAt_par hp]; exact kk
    · rw [decide_eq_false hp]
      rw [exAt_tok hp] at kk
      refine i_itf rfl ?_
      walk_at "st"
      have htl := tok_len l i
      refine i_while ⟨fun m σ G => ∃ j, σ = [some (.str (mk l)), some (.int (i : Int)), some (.int (21 - ((f + 1 : Nat) : Int))), some (.int ((i + j : Nat) : Int)), none] ∧ Same H G ∧ ((l.drop i).take j).all inTok = true ∧ j ≤ (l.drop i).length ∧ (l.drop i).length - j = m, ⟨_, 0, rfl, Same.refl _, rfl, Nat.zero_le _, rfl⟩, ?_⟩
      rintro m σ G ⟨j, rfl, sG, hall, hj, rfl⟩
      walk_at "st"
      refine i_lenS (by omega) ?_
      walk_at "st"
      rw [hlen]
      have stop : ∀ G', Same H G' → Stops ((l.drop i).drop j) → tSeq (tAsg (tCall sp_intof [] E0 (tCons (tSl rSlS (tVar 0) (tPart (tVar 1)) (tPart (tVar 3))) (tCons (tC (.int 20)) tNil))) (gName 4))
          (tSeq (tIfS (tTest (tOp rNotN (tVar 4) (tC .non))) (tRet (tTup (tCons (tVar 4) (tCons (tVar 3) tNil)))) tNext)
          (tRet (tIf (tB (tCall sp_namet [] E0 (tCons (tSl rSlS (tVar 0) (tPart (tVar 1)) (tPart (tVar 3))) tNil))) (tTup (tCons (tSl rSlS (tVar 0) (tPart (tVar 1)) (tPart (tVar 3))) (tCons (tVar 3) tNil))) (tC .non))))
          { nx := fun _ H' => Q .non H', rt := Q } [some (.str (mk l)), some (.int (i : Int)), some (.int (21 - ((f + 1 : Nat) : Int))), some (.int ((i + j : Nat) : Int)), none] G' := by
        intro G' s1 hst
        have etok : (l.drop i).takeWhile inTok = (l.drop i).take j := by
          conv => lhs; rw [← List.take_append_drop j (l.drop i)]
          exact tw_app hall hst
        have eend : endAt l i = i + j := by unfold endAt; rw [etok, List.length_take, Nat.min_eq_left hj]
        have cut : ∀ H2 : Hp, rSlS (.str (mk l)) (some (i : Int)) (some ((i + j : Nat) : Int)) H2 = fun (Q : VK) => rSlS (.str (mk l)) (some (i : Int)) (some ((i + j : Nat) : Int)) H2 Q := fun _ => rfl
        rw [etok, eend] at kk
        have hdl : ((l.drop i).take j).length ≤ 90000 := by rw [List.length_take, List.length_drop]; omega
        walk_at "st"
        refine i_slS (by omega) ?_
        rw [cutS_at _ _ _ (by omega), tl_mk', show i + j - i = j by omega]
        walk_at "st"
        refine ⟨_, rfl, hdl, fun H2 s2 => ?_⟩
        walk_at "st"
        cases hz : intOf ((l.drop i).take j) 20 with
        | some n =>
          simp only [hz] at kk
          refine i_ite rfl ?_
          walk_at "st"
          refine i_new (by simp) fun q hq => ?_
          exact (kk _ (Same.grow (Same.trans s1 s2) hq)).2 _ _ rfl q (.int n) upd_same (.int n)
        | none =>
          simp only [hz] at kk
          refine i_itf rfl ?_
          walk_at "st"
          refine i_slS (by omega) ?_
          rw [cutS_at _ _ _ (by omega), tl_mk', show i + j - i = j by omega]
          walk_at "st"
          refine ⟨_, rfl, hdl, fun H3 s3 => ?_⟩
          have s4 := Same.trans (Same.trans s1 s2) s3
          walk_at "st"
          cases hn : nameOk ((l.drop i).take j) with
          | true =>
            simp only [hn, if_true] at kk
            refine i_ite rfl ?_
            walk_at "st"
            refine i_slS (by omega) ?_
            rw [cutS_at _ _ _ (by omega), tl_mk', show i + j - i = j by omega]
            walk_at "st"
            refine i_new (by simp) fun q hq => ?_
            exact (kk _ (Same.grow s4 hq)).2 _ _ rfl q _ upd_same (.str _)
          | false =>
            have kk2 : EGives K H Q none := by
              simp only [hn] at kk
              exact kk
            refine i_itf rfl ?_
            walk_at "st"
            exact (kk2 _ s4).1 rfl
      by_cases hlt : i + j < l.length
      · refine i_ite (decide_eq_true (by omega)) ?_
        walk_at "st"
        have hgc : (l.drop i)[j]? = some (l[i + j]'hlt) := by rw [List.getElem?_drop]; exact List.getElem?_eq_getElem hlt
        generalize l[i + j]'hlt = c at hgc
        refine i_ixS (j := i + j) (c := c) (by omega) (by rw [tl_mk', ← List.getElem?_drop]; exact hgc) ?_
        walk_at "st"
        refine i_new (by simp) fun q hq => ?_
        refine i_inT (.inl (.inl upd_same)) rfl rfl ?_
        walk_at "st"
        have s1 := Same.grow (o := .tup [.str " ", .str ")", .str "("]) sG hq
        have hdc : (l.drop i).drop j = c :: (l.drop i).drop (j + 1) := by
          have hlt2 : j < (l.drop i).length := by rw [List.length_drop]; omega
          rw [List.drop_eq_getElem_cons hlt2]
          rw [List.getElem?_eq_getElem hlt2] at hgc
          rw [Option.some.inj hgc]
        rw [if_pos rfl, tok_notIn, Bool.not_not]
        cases hc : inTok c with
        | true =>
          refine i_ite rfl ?_
          refine i_N ?_
          walk_at "st"
          refine ⟨(l.drop i).length - (j + 1), by rw [List.length_drop]; omega, j + 1, rfl, s1, ?_, by rw [List.length_drop]; omega, rfl⟩
          rw [take_next hgc, List.all_append, hall]
          simpa using hc
        | false =>
          refine i_itf rfl ?_
          refine stop _ s1 ?_
          intro c' r' e
          rw [hdc] at e
          cases e
          exact hc
      · refine i_itf (decide_eq_false (by omega)) ?_
        refine i_itf rfl ?_
        refine stop _ sG ?_
        intro c' r' e
        rw [List.drop_drop, List.drop_of_length_le (by omega)] at e
        cases e
theorem ok_exat (T : Txt w K mg) : ∀ f : Nat, Cl P w K mg base CX0 (2 * f + 2) "expression_at" ["text", "at", "deep"] (sp_exat (K := K) f)
| 0 => by
  refine ok_exat0 T 0 1 (by omega) ?_
  obtain ⟨fd, F⟩ := T.d_sum_at
  exact ⟨_, fd, T.g_sum_at, F.kp, (FunD.bindsN F (fun _ _ _ _ _ _ us hl => match us, hl with | [_, _, _], _ => rfl)), F.ok sc_sum_at (fun vs H Q E h => ((show False by obtain ⟨m, e, _⟩ := h; omega)).elim) (fun cdv A outer s H vs Q E hr h => ((show False by obtain ⟨m, e, _⟩ := h; omega)).elim)⟩
| f + 1 => by
  exact ok_exat0 T (f + 1) (2 * f + 3) (by omega) ((ok_sumat T f (2 * f + 2) (ok_exat T f)).imp fun vs H Q E h => by obtain ⟨g, e, h⟩ := h; obtain rfl : f = g := (by omega); exact h)
/-! expression_of -/
def OGives (K : PySem.W.Frag) (H : Hp) (Q : VK) (r : Option PyData) : Prop := ∀ H', Same H H' → (r = none → Q .non H') ∧ ∀ d, r = some d → ∀ u, Dp K H' u d → Q u H'
def sp_exof : Sp := fun vs H Q _ => ∃ (l : List Nat), vs = [.str (mk l)] ∧ l.length ≤ 90000 ∧ OGives K H Q ((exOf l).map Ex.py)
theorem ok_exof (T : Txt w K mg) : Cl P w K mg base CX0 43 "expression_of" ["text"] (sp_exof (K := K)) := by
  have c_expression_at := ok_exat (P := P) (base := base) T 20
  obtain ⟨fd, F⟩ := T.d_expression_of
  refine ⟨_, fd, T.g_expression_of, F.kp, (FunD.bindsN F (fun _ _ _ _ _ _ us hl => match us, hl with | [_], _ => rfl)), F.ok sc_expression_of (fun vs H Q E h => ?len) (fun cdv A outer s H vs Q E hr h => ?run)⟩
  case len =>
    obtain ⟨l, rfl, _⟩ := h
    rfl
  refine ⟨_, PSs.nox (pss_cons (ps_set (i := 1) sc_expression_of.nd rfl (by first | exact Or.inl rfl | exact Or.inr rfl) (pcl c_expression_at (hr.mono (by omega)) (pa_cons (pv 0) (pa_cons pe_int (pa_cons pe_int pa_nil)))))
      (pss_one (ps_ret (pe_ifExp (PW.pt (pw_and (pt_cmpR op_notN1 (pv 1) pe_non (nomark _)) (pw_and1 (pt_cmpR op_eq (pe_ix ix_tup (pv 1) pe_int (fun _ _ => rfl)) (pe_callB call_lenX (by rfl) T.f_len (by decide +kernel) (pa_cons (pv 0) pa_nil)) (nomark _))))) (pe_ix ix_tup (pv 1) pe_int (fun _ _ => rfl)) pe_non)))), ?_⟩
  obtain ⟨l, rfl, hl, kk⟩ := h
  have hlen : (mk l).length = l.length := len_mk l
  walk_at "st"
  refine ⟨l, 0, _, _, rfl, rfl, rfl, hl, by omega, fun H1 s1 => ⟨fun en => ?_, fun e n ee p u hp hu => ?_⟩⟩
  · walk_at "st"
    refine i_itf rfl ?_
    refine i_itf rfl ?_
    walk_at "st"
    exact (kk _ s1).1 (by unfold exOf; rw [en]; rfl)
  · walk_at "st"
    refine i_ite rfl ?_
    walk_at "st"
    refine i_ix1 (.inl (.inl hp)) ?_
    walk_at "st"
    refine i_lenS (by omega) ?_
    walk_at "st"
    rw [hlen]
    by_cases hn : n = l.length
    · refine i_ite (by rw [hn]; simp) ?_
      walk_at "st"
      refine i_ix0 (.inl (.inl hp)) ?_
      exact (kk _ s1).2 e.py (by unfold exOf; rw [ee]; simp only []; rw [if_pos hn]; rfl) u hu
    · refine i_itf (decide_eq_false (fun z => hn (by have := V.int.inj z; omega))) ?_
      walk_at "st"
      exact (kk _ s1).1 (by unfold exOf; rw [ee]; simp only []; rw [if_neg hn]; rfl)
end
end K04
/-! text D3 -/
set_option Elab.async false
set_option linter.all false
set_option maxRecDepth 100000
set_option maxHeartbeats 4000000
namespace K04
open PySem PySem.Spec PyProof.Rows L2 TL
local macro_rules
  | `(tactic| walk_at "st") => `(tactic| repeat (with_reducible first
    | refine i_seq ?_ | refine i_ret ?_ | refine i_asg ?_ | refine i_name ?_ | refine i_ifs ?_ | refine i_test ?_ | refine i_B ?_ | refine i_bl ?_ | refine i_var (by with_unfolding_all rfl) ?_ | refine i_c ?_
    | refine i_op ?_ | refine i_un ?_ | refine i_cb ?_ | refine i_cons ?_ | refine i_nil ?_ | refine i_call ?_ | refine i_and ?_ | refine i_or ?_ | refine i_not ?_ | refine i_andV ?_ | refine i_orV ?_ | refine i_notV ?_ | refine i_if ?_
    | refine i_tup ?_ | refine i_lst ?_ | refine i_sl ?_ | refine i_nopart ?_ | refine i_part ?_ | refine i_int ?_ | refine i_chain ?_ | refine i_I0 ?_ | refine i_par ?_ | refine i_two ?_ | refine i_bm ?_ | refine i_bm0 ?_ | refine i_m1 ?_ | refine i_tyS ?_ | refine i_str ?_
    | refine i_for ?_ | refine i_iTup ?_ | refine i_iList ?_ | refine i_iStr ?_ | refine i_iRng1 ?_ | refine i_iRng2 ?_ | refine i_iEnum ?_ | refine i_lc ?_ | refine i_yes ?_ | refine i_revL ?_ | refine i_fld ?_ | refine i_sfld ?_ | refine i_meth ?_ | refine i_make ?_ | refine i_isN ?_ | refine i_notN ?_ | refine i_intB ?_ | refine i_intI ?_
    | refine i_next ?_ | refine i_drop ?_ | refine i_retN ?_ | refine i_gsub ?_ | refine i_ipI ?_ | refine i_aug (by with_unfolding_all rfl) ?_
    | refine i_eq (by with_unfolding_all rfl) ?_ | refine i_ne (by with_unfolding_all rfl) ?_))
abbrev N_rest_of : List Str := ["text", "rest", "space", "word", "by", "numbers", "expression"]
theorem sc_rest_of : FnScope N_rest_of ["text"] (defScope s_rest_of) := ⟨rfl, rfl, rfl, by decide +kernel, rfl, by decide +kernel, by decide +kernel⟩
abbrev N_plain_test_of : List Str := ["text", "left", "right"]
theorem sc_plain_test_of : FnScope N_plain_test_of ["text"] (defScope s_plain_test_of) := ⟨rfl, rfl, rfl, by decide +kernel, rfl, by decide +kernel, by decide +kernel⟩
section
variable {P : Program} {w : World} {K : PySem.W.Frag} {mg : Str → Option Value} {base : Heap}
theorem bef_le (l : List Nat) : (bef l).length ≤ l.length := (List.takeWhile_sublist _).length_le
theorem aft_le (l : List Nat) : (aft l).length ≤ l.length := by
  unfold aft
  have := (List.dropWhile_sublist (fun x : Nat => x != 32) (l := l)).length_le
  rw [List.length_drop]; omega
def sp_restof : Sp := fun vs H Q _ => ∃ (l : List Nat), vs = [.str (mk l)] ∧ l.length ≤ 90000 ∧ OGives K H Q ((restOf l).map Te.py)
theorem no_inV (a b : Option Int) : inV .non [oI a, oI b] = (a.isNone || b.isNone) := by cases a <;> cases b <;> rfl
theorem ok_restof (T : Txt w K mg) : Cl P w K mg base CX0 44 "rest_of" ["text"] (sp_restof (K := K)) := by
  have c_integer_of := ok_intof (P := P) (base := base) T
  have c_expression_of := ok_exof (P := P) (base := base) T
  obtain ⟨fd, F⟩ := T.d_rest_of
  obtain ⟨_, hc_MOST_FIGURES⟩ := T.c_MOST_FIGURES
  refine ⟨_, fd, T.g_rest_of, F.kp, (FunD.bindsN F (fun _ _ _ _ _ _ us hl => match us, hl with | [_], _ => rfl)), F.ok sc_rest_of (fun vs H Q E h => ?len) (fun cdv A outer s H vs Q E hr h => ?run)⟩
  case len =>
    obtain ⟨l, rfl, _⟩ := h
    rfl
  refine ⟨_, PSs.nox (pss_cons (ps_asg (show PE _ _ (tM1 rPart _ _) from pe_partition (pv 0) pe_str) (pg_tup rfl (pgs_cons (pg_name (i := 1) sc_rest_of.nd rfl (by first | exact Or.inl rfl | exact Or.inr rfl)) (pgs_cons (pg_name (i := 2) sc_rest_of.nd rfl (by first | exact Or.inl rfl | exact Or.inr rfl)) (pgs_cons (pg_name (i := 0) sc_rest_of.nd rfl (by first | exact Or.inl rfl | exact Or.inr rfl)) pgs_nil)))))
      (pss_cons (ps_asg (show PE _ _ (tM1 rPart _ _) from pe_partition (pv 0) pe_str) (pg_tup rfl (pgs_cons (pg_name (i := 3) sc_rest_of.nd rfl (by first | exact Or.inl rfl | exact Or.inr rfl)) (pgs_cons (pg_name (i := 2) sc_rest_of.nd rfl (by first | exact Or.inl rfl | exact Or.inr rfl)) (pgs_cons (pg_name (i := 0) sc_rest_of.nd rfl (by first | exact Or.inl rfl | exact Or.inr rfl)) pgs_nil)))))
      (pss_cons (ps_asg (show PE _ _ (tM1 rPart _ _) from pe_partition (pv 0) pe_str) (pg_tup rfl (pgs_cons (pg_name (i := 4) sc_rest_of.nd rfl (by first | exact Or.inl rfl | exact Or.inr rfl)) (pgs_cons (pg_name (i := 2) sc_rest_of.nd rfl (by first | exact Or.inl rfl | exact Or.inr rfl)) (pgs_cons (pg_name (i := 0) sc_rest_of.nd rfl (by first | exact Or.inl rfl | exact Or.inr rfl)) pgs_nil)))))
      (pss_cons (ps_set (i := 5) sc_rest_of.nd rfl (by first | exact Or.inl rfl | exact Or.inr rfl) (pe_lst (pa_cons (pcl c_integer_of (hr.mono (by omega)) (pa_cons (pv 1) (pa_cons (pe_glob (v := .int 20) rfl hc_MOST_FIGURES ⟨_, rfl⟩) pa_nil))) (pa_cons (pcl c_integer_of (hr.mono (by omega)) (pa_cons (pv 4) (pa_cons (pe_glob (v := .int 20) rfl hc_MOST_FIGURES ⟨_, rfl⟩) pa_nil))) pa_nil))))
      (pss_cons (ps_set (i := 6) sc_rest_of.nd rfl (by first | exact Or.inl rfl | exact Or.inr rfl) (pcl c_expression_of (hr.mono (by omega)) (pa_cons (pv 0) pa_nil)))
      (pss_cons (ps_if (PW.pt (pw_or (pt_cmpR op_ne (pv 3) pe_str (nomark _)) (pw_or (pt_cmpR op_in_seq pe_non (pv 5) (by rfl)) (pw_or1 (pt_cmpR op_isN1 (pv 6) pe_non (nomark _)))))) (pss_one (ps_ret pe_non)) pss_nil)
      (pss_one (ps_ret (pe_tup (pa_cons pe_str (pa_cons (pv 6) (pa_cons (pe_ix ix_list (pv 5) pe_int (fun _ _ => rfl)) (pa_cons (pe_ix ix_list (pv 5) pe_int (fun _ _ => rfl)) pa_nil))))))))))))), ?_⟩
  obtain ⟨l, rfl, hl, kk⟩ := h
  have h1 := bef_le l
  have h2 := aft_le l
  have h3 := bef_le (aft l)
  have h4 := aft_le (aft l)
  have h5 := bef_le (aft (aft l))
  have h6 := aft_le (aft (aft l))
  walk_at "st"
  refine i_partn hl fun z1 p1 hp1 => ?_
  refine i_gtup (.inl (.inl upd_same)) rfl ?_
  refine i_gcons ?_
  walk_at "st"
  refine i_gcons ?_
  walk_at "st"
  refine i_gcons ?_
  walk_at "st"
  refine i_gnil ?_
  walk_at "st"
  refine i_partn (by omega) fun z2 p2 hp2 => ?_
  refine i_gtup (.inl (.inl upd_same)) rfl ?_
  refine i_gcons ?_
  walk_at "st"
  refine i_gcons ?_
  walk_at "st"
  refine i_gcons ?_
  walk_at "st"
  refine i_gnil ?_
  walk_at "st"
  refine i_partn (by omega) fun z3 p3 hp3 => ?_
  refine i_gtup (.inl (.inl upd_same)) rfl ?_
  refine i_gcons ?_
  walk_at "st"
  refine i_gcons ?_
  walk_at "st"
  refine i_gcons ?_
  walk_at "st"
  refine i_gnil ?_
  walk_at "st"
  have s3 := Same.grow (o := .tup [.str (mk (bef (aft (aft l)))), .str z3, .str (mk (aft (aft (aft l))))]) (Same.grow (o := .tup [.str (mk (bef (aft l))), .str z2, .str (mk (aft (aft l)))]) (Same.new (o := .tup [.str (mk (bef l)), .str z1, .str (mk (aft l))]) hp1) hp2) hp3
  generalize upd (upd (upd H p1 _) p2 _) p3 _ = G3 at s3 ⊢
  refine ⟨_, rfl, by omega, fun G4 s4 => ?_⟩
  walk_at "st"
  refine ⟨_, rfl, by omega, fun G5 s5 => ?_⟩
  walk_at "st"
  refine i_new (by simp) fun p6 hp6 => ?_
  walk_at "st"
  have s6 := Same.grow (o := .lst [oI (intOf (bef l) 20), oI (intOf (bef (aft (aft l))) 20)]) (Same.trans (Same.trans s3 s4) s5) hp6
  have g6 : upd G5 p6 (.lst [oI (intOf (bef l) 20), oI (intOf (bef (aft (aft l))) 20)]) p6 = some (.lst [oI (intOf (bef l) 20), oI (intOf (bef (aft (aft l))) 20)]) := upd_same
  generalize upd G5 p6 (.lst [oI (intOf (bef l) 20), oI (intOf (bef (aft (aft l))) 20)]) = G6 at s6 g6 ⊢
  have done : ∀ (G7 : Hp) (v : V), Same G6 G7 → (exOf (aft (aft (aft l))) = none → v = .non) → (∀ e, exOf (aft (aft (aft l))) = some e → Dp K G7 v e.py ∧ v ≠ .non) →
      tSeq (tIfS (tOr (tTest (tOp rNe (tVar 3) (tC (.str "of")))) (tOr (tTest (tOp (rIn K false) (tC .non) (tVar 5))) (tTest (tOp rIsN (tVar 6) (tC .non))))) (tRet (tC .non)) tNext)
        (tRet (tTup (tCons (tC (.str "rest")) (tCons (tVar 6) (tCons (tOp (rIxL K) (tVar 5) (tC (.int 1))) (tCons (tOp (rIxL K) (tVar 5) (tC (.int 0))) tNil))))))
        { nx := fun _ H' => Q .non H', rt := Q } [some (.str (mk (aft (aft (aft l))))), some (.str (mk (bef l))), some (.str z3), some (.str (mk (bef (aft l)))), some (.str (mk (bef (aft (aft l))))), some (.ref p6), some v] G7 := by
    intro G7 v s7 hv1 hv2
    have s8 := Same.trans s6 s7
    walk_at "st"
    rw [dec_kc]
    by_cases hof : bef (aft l) = cs "of"
    · rw [decide_eq_true hof]
      refine i_itf rfl ?_
      walk_at "st"
      refine i_inL (.inl (.inl (s7 _ _ g6))) rfl (by cases intOf (bef l) 20 <;> cases intOf (bef (aft (aft l))) 20 <;> rfl) ?_
      walk_at "st"
      rw [no_inV]
      cases ha : intOf (bef l) 20 with
      | none =>
        refine i_ite rfl ?_
        refine i_ite rfl ?_
        walk_at "st"
        exact (kk _ s8).1 (by unfold restOf; rw [ha]; rfl)
      | some a =>
        cases hb : intOf (bef (aft (aft l))) 20 with
        | none =>
          refine i_ite rfl ?_
          refine i_ite rfl ?_
          walk_at "st"
          exact (kk _ s8).1 (by unfold restOf; rw [ha, hb]; rfl)
        | some b =>
          refine i_itf rfl ?_
          walk_at "st"
          cases he : exOf (aft (aft (aft l))) with
          | none =>
            obtain rfl := hv1 he
            refine i_ite rfl ?_
            walk_at "st"
            exact (kk _ s8).1 (by unfold restOf; rw [ha, hb, he]; rfl)
          | some e =>
            obtain ⟨dv, nv⟩ := hv2 e he
            refine i_itf (decide_eq_false nv) ?_
            walk_at "st"
            rw [ha, hb] at g6
            refine i_ixL (j := 1) (.inl (.inl (s7 _ _ g6))) rfl ?_
            walk_at "st"
            refine i_ixL (j := 0) (.inl (.inl (s7 _ _ g6))) rfl ?_
            walk_at "st"
            refine i_new (by simp) fun p9 hp9 => ?_
            exact (kk _ (Same.grow s8 hp9)).2 _ (by unfold restOf; rw [ha, hb, he]; simp only []; rw [if_pos hof]; rfl) _ (dp_of4 upd_same (.str _) (dp_mono (Same.new hp9) dv) (.int _) (.int _))
    · rw [decide_eq_false hof]
      refine i_ite rfl ?_
      refine i_ite rfl ?_
      walk_at "st"
      exact (kk _ s8).1 (by
        unfold restOf
        split
        · rw [if_neg hof]; rfl
        · rfl)
  refine ⟨_, rfl, by omega, fun G7 s7 => ⟨fun en => ?_, fun d ed u hu => ?_⟩⟩
  · exact done G7 .non s7 (fun _ => rfl) (fun e he => by rw [he] at en; cases en)
  · refine done G7 u s7 (fun en => by rw [en] at ed; cases ed) (fun e he => ?_)
    rw [he] at ed
    cases ed
    refine ⟨hu, ?_⟩
    rintro rfl
    cases e <;> cases hu
/-! plain_test_of -/
def sp_ptof : Sp := fun vs H Q _ => ∃ (l : List Nat), vs = [.str (mk l)] ∧ l.length ≤ 90000 ∧ OGives K H Q ((ptOf l).map Te.py)
theorem lits : (cs "rest ").length = 5 ∧ cs "rest " ≠ [] ∧ cs " < " = [32, 60, 32] ∧ (cs "not ").length = 4 ∧ cs "not " ≠ [] := by decide +kernel
theorem ok_ptof (T : Txt w K mg) : Cl P w K mg base CX0 45 "plain_test_of" ["text"] (sp_ptof (K := K)) := by
  have c_rest_of := ok_restof (P := P) (base := base) T
  have c_expression_at := ok_exat (P := P) (base := base) T 20
  have c_expression_of := ok_exof (P := P) (base := base) T
  obtain ⟨fd, F⟩ := T.d_plain_test_of
  refine ⟨_, fd, T.g_plain_test_of, F.kp, (FunD.bindsN F (fun _ _ _ _ _ _ us hl => match us, hl with | [_], _ => rfl)), F.ok sc_plain_test_of (fun vs H Q E h => ?len) (fun cdv A outer s H vs Q E hr h => ?run)⟩
  case len =>
    obtain ⟨l, rfl, _⟩ := h
    rfl
  refine ⟨_, PSs.nox (pss_cons (ps_if (pt_val (pe_bm PySem.F.plainAttrs_str PySem.F.slot_str_startswith PySem.F.type_str_startswith (show MtR _ _ rStarts from mt_startswith) (pv 0) (pa_cons pe_str pa_nil))) (pss_one (ps_ret (pcl c_rest_of (hr.mono (by omega)) (pa_cons (pe_slice sl_str (pv 0) (po_some pe_int) po_none) pa_nil)))) pss_nil)
      (pss_cons (ps_set (i := 1) sc_plain_test_of.nd rfl (by first | exact Or.inl rfl | exact Or.inr rfl) (pcl c_expression_at (hr.mono (by omega)) (pa_cons (pv 0) (pa_cons pe_int (pa_cons pe_int pa_nil)))))
      (pss_cons (ps_if (PW.pt (pw_or (pt_cmpR op_isN1 (pv 1) pe_non (nomark _)) (pw_or1 (pt_cmpR op_ne (pe_slice sl_str (pv 0) (po_some (pe_ix ix_tup (pv 1) pe_int (fun _ _ => rfl))) (po_some (pe_op op_add (pe_ix ix_tup (pv 1) pe_int (fun _ _ => rfl)) pe_int))) pe_str (nomark _))))) (pss_one (ps_ret pe_non)) pss_nil)
      (pss_cons (ps_set (i := 2) sc_plain_test_of.nd rfl (by first | exact Or.inl rfl | exact Or.inr rfl) (pcl c_expression_of (hr.mono (by omega)) (pa_cons (pe_slice sl_str (pv 0) (po_some (pe_op op_add (pe_ix ix_tup (pv 1) pe_int (fun _ _ => rfl)) pe_int)) po_none) pa_nil)))
      (pss_one (ps_ret (pe_ifExp (pt_cmpR op_isN1 (pv 2) pe_non (nomark _)) pe_non (pe_tup (pa_cons pe_str (pa_cons (pe_ix ix_tup (pv 1) pe_int (fun _ _ => rfl)) (pa_cons (pv 2) pa_nil))))))))))), ?_⟩
  obtain ⟨l, rfl, hl, kk⟩ := h
  have hlen : (mk l).length = l.length := len_mk l
  obtain ⟨r5, rne, lt3, n4, nne⟩ := lits
  walk_at "st"
  refine i_starts rne ?_
  walk_at "st"
  rw [r5]
  by_cases hr : l.take 5 = cs "rest "
  · rw [decide_eq_true hr]
    refine i_ite rfl ?_
    walk_at "st"
    refine i_slS (by omega) ?_
    rw [show (some (5 : Int)) = some ((5 : Nat) : Int) from rfl, cutS_from, tl_mk']
    walk_at "st"
    refine ⟨_, rfl, by rw [List.length_drop]; omega, ?_⟩
    unfold ptOf at kk
    rw [if_pos hr] at kk
    exact kk
  · rw [decide_eq_false hr]
    unfold ptOf at kk
    rw [if_neg hr] at kk
    refine i_itf rfl ?_
    walk_at "st"
    refine ⟨l, 0, _, _, rfl, rfl, rfl, hl, by omega, fun H1 s1 => ⟨fun en => ?_, fun one e1 ee p u hp hu => ?_⟩⟩
    · rw [en] at kk
      walk_at "st"
      refine i_ite rfl ?_
      refine i_ite rfl ?_
      walk_at "st"
      exact (kk _ s1).1 rfl
    · have he1 := exAt_end 20 l 0 one e1 (by omega) ee
      rw [ee] at kk
      simp only [] at kk
      walk_at "st"
      refine i_itf rfl ?_
      walk_at "st"
      refine i_ix1 (.inl (.inl hp)) ?_
      walk_at "st"
      refine i_ix1 (.inl (.inl hp)) ?_
      walk_at "st"
      refine i_slS (by omega) ?_
      rw [show ((e1 : Int) + 3) = ((e1 + 3 : Nat) : Int) by omega, cutS_at _ _ _ (by omega), tl_mk', show e1 + 3 - e1 = 3 by omega]
      walk_at "st"
      rw [dec_kc, lt3]
      by_cases hlt : (l.drop e1).take 3 = [32, 60, 32]
      · rw [decide_eq_true hlt]
        rw [if_neg (fun z => z hlt)] at kk
        refine i_itf rfl ?_
        walk_at "st"
        refine i_ix1 (.inl (.inl hp)) ?_
        walk_at "st"
        refine i_slS (by omega) ?_
        rw [show (some ((e1 : Int) + 3)) = some ((e1 + 3 : Nat) : Int) by rw [Int.natCast_add]; rfl, cutS_from, tl_mk']
        walk_at "st"
        refine ⟨_, rfl, by rw [List.length_drop]; omega, fun H2 s2 => ⟨fun en => ?_, fun d ed v hv => ?_⟩⟩
        · walk_at "st"
          refine i_ite rfl ?_
          walk_at "st"
          exact (kk _ (Same.trans s1 s2)).1 (by cases z : exOf (l.drop (e1 + 3)) with | none => rfl | some q => rw [z] at en; cases en)
        · cases z : exOf (l.drop (e1 + 3)) with
          | none => rw [z] at ed; cases ed
          | some b =>
            rw [z] at ed kk
            cases ed
            have nv : v ≠ .non := by rintro rfl; cases b <;> cases hv
            walk_at "st"
            refine i_itf (decide_eq_false nv) ?_
            walk_at "st"
            refine i_ix0 (.inl (.inl (s2 _ _ hp))) ?_
            walk_at "st"
            refine i_new (by simp) fun q hq => ?_
            have s3 := Same.grow (o := .tup [.str "less", u, v]) s2 hq
            exact (kk _ (Same.trans s1 s3)).2 _ rfl _ (dp_of3 upd_same (.str _) (dp_mono s3 hu) (dp_mono (Same.new hq) hv))
      · rw [decide_eq_false hlt]
        rw [if_pos hlt] at kk
        refine i_ite rfl ?_
        walk_at "st"
        exact (kk _ s1).1 rfl
end
end K04
/-! text D4 -/
set_option Elab.async false
set_option linter.all false
set_option maxRecDepth 100000
set_option maxHeartbeats 4000000
namespace K04
open PySem PySem.Spec PyProof.Rows L2 TL
local macro_rules
  | `(tactic| walk_at "st") => `(tactic| repeat (with_reducible first
    | refine i_seq ?_ | refine i_ret ?_ | refine i_asg ?_ | refine i_name ?_ | refine i_ifs ?_ | refine i_test ?_ | refine i_B ?_ | refine i_bl ?_ | refine i_var (by with_unfolding_all rfl) ?_ | refine i_c ?_
    | refine i_op ?_ | refine i_un ?_ | refine i_cb ?_ | refine i_cons ?_ | refine i_nil ?_ | refine i_call ?_ | refine i_and ?_ | refine i_or ?_ | refine i_not ?_ | refine i_andV ?_ | refine i_orV ?_ | refine i_notV ?_ | refine i_if ?_
    | refine i_tup ?_ | refine i_lst ?_ | refine i_sl ?_ | refine i_nopart ?_ | refine i_part ?_ | refine i_int ?_ | refine i_chain ?_ | refine i_I0 ?_ | refine i_par ?_ | refine i_two ?_ | refine i_bm ?_ | refine i_bm0 ?_ | refine i_m1 ?_ | refine i_tyS ?_ | refine i_str ?_
    | refine i_for ?_ | refine i_iTup ?_ | refine i_iList ?_ | refine i_iStr ?_ | refine i_iRng1 ?_ | refine i_iRng2 ?_ | refine i_iEnum ?_ | refine i_lc ?_ | refine i_yes ?_ | refine i_revL ?_ | refine i_fld ?_ | refine i_sfld ?_ | refine i_meth ?_ | refine i_make ?_ | refine i_isN ?_ | refine i_notN ?_ | refine i_intB ?_ | refine i_intI ?_
    | refine i_next ?_ | refine i_drop ?_ | refine i_retN ?_ | refine i_gsub ?_ | refine i_ipI ?_ | refine i_aug (by with_unfolding_all rfl) ?_
    | refine i_eq (by with_unfolding_all rfl) ?_ | refine i_ne (by with_unfolding_all rfl) ?_))
abbrev N_test_of : List Str := ["text", "nots", "test", "turn"]
theorem sc_test_of : FnScope N_test_of ["text"] (defScope s_test_of) := ⟨rfl, rfl, rfl, by decide +kernel, rfl, by decide +kernel, by decide +kernel⟩
abbrev N_setting_of : List Str := ["text", "name", "space", "expression"]
theorem sc_setting_of : FnScope N_setting_of ["text"] (defScope s_setting_of) := ⟨rfl, rfl, rfl, by decide +kernel, rfl, by decide +kernel, by decide +kernel⟩
abbrev N_valued : List Str := ["word", "value"]
theorem sc_valued : FnScope N_valued ["word", "value"] (defScope s_valued) := ⟨rfl, rfl, rfl, by decide +kernel, rfl, by decide +kernel, by decide +kernel⟩
abbrev N_statement_of : List Str := ["line", "word", "space", "rest"]
theorem sc_statement_of : FnScope N_statement_of ["line"] (defScope s_statement_of) := ⟨rfl, rfl, rfl, by decide +kernel, rfl, by decide +kernel, by decide +kernel⟩
section
variable {P : Program} {w : World} {K : PySem.W.Frag} {mg : Str → Option Value} {base : Heap}
theorem te_ne {H : Hp} {v : V} {t : Te} (h : Dp K H v t.py) : v ≠ .non := by rintro rfl; cases t <;> cases h
theorem ex_ne {H : Hp} {v : V} {e : Ex} (h : Dp K H v e.py) : v ≠ .non := by rintro rfl; cases e <;> cases h
def sp_teof : Sp := fun vs H Q _ => ∃ (l : List Nat), vs = [.str (mk l)] ∧ l.length ≤ 90000 ∧ OGives K H Q ((teOf l).map Te.py)
theorem nn_stop {f : Nat} {l : List Nat} (h : l.take 4 ≠ cs "not ") : nn f l = (0, l) := by
  cases f with
  | zero => rfl
  | succ f => rw [nn, if_neg h]
theorem ok_teof (T : Txt w K mg) : Cl P w K mg base CX0 46 "test_of" ["text"] (sp_teof (K := K)) := by
  have c_plain_test_of := ok_ptof (P := P) (base := base) T
  obtain ⟨fd, F⟩ := T.d_test_of
  obtain ⟨_, hc_MOST_NOTS⟩ := T.c_MOST_NOTS
  refine ⟨_, fd, T.g_test_of, F.kp, (FunD.bindsN F (fun _ _ _ _ _ _ us hl => match us, hl with | [_], _ => rfl)), F.ok sc_test_of (fun vs H Q E h => ?len) (fun cdv A outer s H vs Q E hr h => ?run)⟩
  case len =>
    obtain ⟨l, rfl, _⟩ := h
    rfl
  refine ⟨_, PSs.nox (pss_cons (ps_set (i := 1) sc_test_of.nd rfl (by first | exact Or.inl rfl | exact Or.inr rfl) pe_int)
      (pss_cons (ps_while PassesOwn.never (pt_val (pe_bm PySem.F.plainAttrs_str PySem.F.slot_str_startswith PySem.F.type_str_startswith (show MtR _ _ rStarts from mt_startswith) (pv 0) (pa_cons pe_str pa_nil))) (pss_cons (ps_aug (i := 1) sc_test_of.nd rfl (by first | exact Or.inl rfl | exact Or.inr rfl) pe_int ip_add)
      (pss_one (ps_set (i := 0) sc_test_of.nd rfl (by first | exact Or.inl rfl | exact Or.inr rfl) (pe_slice sl_str (pv 0) (po_some pe_int) po_none)))))
      (pss_cons (ps_set (i := 2) sc_test_of.nd rfl (by first | exact Or.inl rfl | exact Or.inr rfl) (pcl c_plain_test_of (hr.mono (by omega)) (pa_cons (pv 0) pa_nil)))
      (pss_cons (ps_if (PW.pt (pw_or (pt_cmpR op_isN1 (pv 2) pe_non (nomark _)) (pw_or1 (pt_cmpR op_gt (pv 1) (pe_glob (v := .int 20) rfl hc_MOST_NOTS ⟨_, rfl⟩) (nomark _))))) (pss_one (ps_ret pe_non)) pss_nil)
      (pss_cons (ps_for PassesOwn.never rfl (pi_range1 rfl T.f_range (pa_cons (pv 1) pa_nil)) (pg_name (i := 3) sc_test_of.nd rfl (by first | exact Or.inl rfl | exact Or.inr rfl)) (pss_one (ps_set (i := 2) sc_test_of.nd rfl (by first | exact Or.inl rfl | exact Or.inr rfl) (pe_tup (pa_cons pe_str (pa_cons (pv 2) pa_nil))))))
      (pss_one (ps_ret (pv 2)))))))), ?_⟩
  obtain ⟨l, rfl, hl, kk⟩ := h
  obtain ⟨r5, rne, lt3, n4, nne⟩ := lits
  walk_at "st"
  refine i_while ⟨fun m σ G => ∃ (l' : List Nat) (j f : Nat), σ = [some (.str (mk l')), some (.int (j : Int)), none, none] ∧ G = H ∧ nn l.length l = (j + (nn f l').1, (nn f l').2) ∧ l'.length ≤ f ∧ l'.length ≤ 90000 ∧ j + l'.length ≤ l.length ∧ l'.length = m, ⟨_, l, 0, l.length, rfl, rfl, by rw [Nat.zero_add], Nat.le_refl _, hl, by omega, rfl⟩, ?_⟩
  rintro m σ G ⟨l', j, f, rfl, rfl, hnn, hf, hl', hjl, rfl⟩
  walk_at "st"
  refine i_starts nne ?_
  walk_at "st"
  rw [n4]
  by_cases hn : l'.take 4 = cs "not "
  · rw [decide_eq_true hn]
    refine i_ite rfl ?_
    refine i_N ?_
    walk_at "st"
    refine i_slS (by rw [len_mk]; omega) ?_
    rw [show (some (4 : Int)) = some ((4 : Nat) : Int) from rfl, cutS_from, tl_mk']
    walk_at "st"
    have h4 : 4 ≤ l'.length := by
      have := congrArg List.length hn
      rw [List.length_take, n4] at this
      omega
    cases f with
    | zero => omega
    | succ f =>
      refine ⟨(l'.drop 4).length, by rw [List.length_drop]; omega, l'.drop 4, j + 1, f, rfl, rfl, ?_, by rw [List.length_drop]; omega, by rw [List.length_drop]; omega, by rw [List.length_drop]; omega, rfl⟩
      rw [hnn, nn, if_pos hn]
      show (j + ((nn f (l'.drop 4)).1 + 1), _) = _
      rw [show j + ((nn f (l'.drop 4)).1 + 1) = j + 1 + (nn f (l'.drop 4)).1 by omega]
  · rw [decide_eq_false hn]
    rw [nn_stop hn] at hnn
    have hnn : nn l.length l = (j, l') := hnn
    unfold teOf at kk
    rw [hnn] at kk
    refine i_itf rfl ?_
    walk_at "st"
    refine ⟨l', rfl, hl', fun H1 s1 => ⟨fun en => ?_, fun d ed u hu => ?_⟩⟩
    · walk_at "st"
      refine i_ite rfl ?_
      refine i_ite rfl ?_
      walk_at "st"
      exact (kk _ s1).1 (by cases z : ptOf l' with | none => simp only [z]; rfl | some t => rw [z] at en; cases en)
    · cases z : ptOf l' with
      | none => rw [z] at ed; cases ed
      | some t =>
      rw [z] at ed
      simp only [z] at kk
      cases ed
      walk_at "st"
      refine i_itf (decide_eq_false (te_ne hu)) ?_
      walk_at "st"
      by_cases h20 : 20 < j
      · rw [if_pos h20] at kk
        refine i_ite (decide_eq_true (by omega)) ?_
        walk_at "st"
        exact (kk _ s1).1 rfl
      · rw [if_neg h20] at kk
        refine i_itf (decide_eq_false (by omega)) ?_
        walk_at "st"
        refine ⟨_, rfl, by omega, by omega, ?_⟩
        refine for_it (walk_range (lo := 0) (n := (j : Int).toNat)) (fun i τ G => ∃ u x, τ = [some (.str (mk l')), some (.int (j : Int)), some u, x] ∧ Same H1 G ∧ Dp K G u (wrap i t).py) ⟨u, _, rfl, Same.refl _, hu⟩ (fun _ _ _ _ _ => trivial) ?_ ?_
        · rintro i x τ G G' hi ⟨u', x', rfl, sG, hu'⟩ ⟨rfl, rfl⟩
          walk_at "st"
          refine i_new (by simp) fun q hq => ?_
          walk_at "st"
          exact ⟨_, _, rfl, Same.grow sG hq, dp_of2 upd_same (.str _) (dp_mono (Same.new hq) hu')⟩
        · rintro τ G ⟨u', x', rfl, sG, hu'⟩
          walk_at "st"
          exact (kk _ (Same.trans s1 sG)).2 _ rfl _ hu'
/-! setting_of, valued, statement_of -/
def sp_setof : Sp := fun vs H Q _ => ∃ (l : List Nat), vs = [.str (mk l)] ∧ l.length ≤ 90000 ∧ OGives K H Q ((setOf l).map Hd.py)
theorem ok_setof (T : Txt w K mg) : Cl P w K mg base CX0 44 "setting_of" ["text"] (sp_setof (K := K)) := by
  have c_expression_of := ok_exof (P := P) (base := base) T
  have c_is_name_texts := ok_namet (P := P) (base := base) T
  obtain ⟨fd, F⟩ := T.d_setting_of
  refine ⟨_, fd, T.g_setting_of, F.kp, (FunD.bindsN F (fun _ _ _ _ _ _ us hl => match us, hl with | [_], _ => rfl)), F.ok sc_setting_of (fun vs H Q E h => ?len) (fun cdv A outer s H vs Q E hr h => ?run)⟩
  case len =>
    obtain ⟨l, rfl, _⟩ := h
    rfl
  refine ⟨_, PSs.nox (pss_cons (ps_asg (show PE _ _ (tM1 rPart _ _) from pe_partition (pv 0) pe_str) (pg_tup rfl (pgs_cons (pg_name (i := 1) sc_setting_of.nd rfl (by first | exact Or.inl rfl | exact Or.inr rfl)) (pgs_cons (pg_name (i := 2) sc_setting_of.nd rfl (by first | exact Or.inl rfl | exact Or.inr rfl)) (pgs_cons (pg_name (i := 0) sc_setting_of.nd rfl (by first | exact Or.inl rfl | exact Or.inr rfl)) pgs_nil)))))
      (pss_cons (ps_set (i := 3) sc_setting_of.nd rfl (by first | exact Or.inl rfl | exact Or.inr rfl) (pcl c_expression_of (hr.mono (by omega)) (pa_cons (pv 0) pa_nil)))
      (pss_one (ps_ret (pe_ifExp (PW.pt (pw_and (pt_val (pcl c_is_name_texts (hr.mono (by omega)) (pa_cons (pv 1) pa_nil))) (pw_and1 (pt_cmpR op_notN1 (pv 3) pe_non (nomark _))))) (pe_tup (pa_cons pe_str (pa_cons (pv 1) (pa_cons (pv 3) pa_nil)))) pe_non))))), ?_⟩
  obtain ⟨l, rfl, hl, kk⟩ := h
  have h1 := bef_le l
  have h2 := aft_le l
  walk_at "st"
  refine i_partn hl fun z1 p1 hp1 => ?_
  refine i_gtup (.inl (.inl upd_same)) rfl ?_
  refine i_gcons ?_
  walk_at "st"
  refine i_gcons ?_
  walk_at "st"
  refine i_gcons ?_
  walk_at "st"
  refine i_gnil ?_
  walk_at "st"
  have s0 := Same.new (o := .tup [.str (mk (bef l)), .str z1, .str (mk (aft l))]) hp1
  have done : ∀ (G : Hp) (v : V), Same H G → (exOf (aft l) = none → v = .non) → (∀ e, exOf (aft l) = some e → Dp K G v e.py ∧ v ≠ .non) →
      tRet (tIf (tAnd (tB (tCall sp_namet [] E0 (tCons (tVar 1) tNil))) (tTest (tOp rNotN (tVar 3) (tC .non)))) (tTup (tCons (tC (.str "set")) (tCons (tVar 1) (tCons (tVar 3) tNil)))) (tC .non))
        { nx := fun _ H' => Q .non H', rt := Q } [some (.str (mk (aft l))), some (.str (mk (bef l))), some (.str z1), some v] G := by
    intro G v sG hv1 hv2
    walk_at "st"
    refine ⟨_, rfl, by omega, fun G2 s2 => ?_⟩
    walk_at "st"
    cases hn : nameOk (bef l) with
    | false =>
      refine i_itf rfl ?_
      refine i_itf rfl ?_
      walk_at "st"
      exact (kk _ (Same.trans sG s2)).1 (by
        unfold setOf
        cases exOf (aft l) with
        | none => rfl
        | some e => simp only [hn]; rfl)
    | true =>
      refine i_ite rfl ?_
      walk_at "st"
      cases he : exOf (aft l) with
      | none =>
        obtain rfl := hv1 he
        refine i_itf rfl ?_
        walk_at "st"
        exact (kk _ (Same.trans sG s2)).1 (by unfold setOf; rw [he]; rfl)
      | some e =>
        obtain ⟨dv, nv⟩ := hv2 e he
        rw [decide_eq_false nv]
        refine i_ite rfl ?_
        walk_at "st"
        refine i_new (by simp) fun q hq => ?_
        exact (kk _ (Same.grow (Same.trans sG s2) hq)).2 _ (by unfold setOf; rw [he]; simp only [hn, if_true]; rfl) _ (dp_of3 upd_same (.str _) (.str _) (dp_mono (Same.trans s2 (Same.new hq)) dv))
  refine ⟨_, rfl, by omega, fun G s1 => ⟨fun en => ?_, fun d ed u hu => ?_⟩⟩
  · exact done G .non (Same.trans s0 s1) (fun _ => rfl) (fun e he => by rw [he] at en; cases en)
  · refine done G u (Same.trans s0 s1) (fun en => by rw [en] at ed; cases ed) (fun e he => ?_)
    rw [he] at ed
    cases ed
    exact ⟨hu, ex_ne hu⟩
def sp_valued : Sp := fun vs H Q _ => ∃ (x : Str) (v : V), vs = [.str x, v] ∧ (v = .non → Q .non H) ∧ (v ≠ .non → ∀ p, H p = none → Q (.ref p) (upd H p (.tup [.str x, v])))
theorem ok_valued (T : Txt w K mg) : Cl P w K mg base CX0 1 "valued" ["word", "value"] sp_valued := by
  obtain ⟨fd, F⟩ := T.d_valued
  refine ⟨_, fd, T.g_valued, F.kp, (FunD.bindsN F (fun _ _ _ _ _ _ us hl => match us, hl with | [_, _], _ => rfl)), F.ok sc_valued (fun vs H Q E h => ?len) (fun cdv A outer s H vs Q E hr h => ?run)⟩
  case len =>
    obtain ⟨x, v, rfl, _⟩ := h
    rfl
  refine ⟨_, PSs.nox (pss_one (ps_ret (pe_ifExp (pt_cmpR op_isN1 (pv 1) pe_non (nomark _)) pe_non (pe_tup (pa_cons (pv 0) (pa_cons (pv 1) pa_nil)))))), ?_⟩
  obtain ⟨x, v, rfl, h1, h2⟩ := h
  walk_at "st"
  by_cases hv : v = .non
  · rw [decide_eq_true hv]
    refine i_ite rfl ?_
    walk_at "st"
    exact h1 hv
  · rw [decide_eq_false hv]
    refine i_itf rfl ?_
    walk_at "st"
    exact i_new (by simp) (h2 hv)
def sp_stof : Sp := fun vs H Q _ => ∃ (l : List Nat), vs = [.str (mk l)] ∧ l.length ≤ 90000 ∧ OGives K H Q ((stOf l).map Hd.py)
theorem in3 (l : List Nat) : inV (.str (mk l)) [.str "stop", .str "we", .str "they"] = (decide (l = cs "stop") || (decide (l = cs "we") || decide (l = cs "they"))) := by
  have e : ∀ (s : String), (eqV (.str (Str.ofString s)) (.str (mk l))) = decide (l = cs s) := fun s => by
    show (Str.ofString s == (mk l)) = _
    rw [kc, Bool.eq_iff_iff, beq_iff_eq, decide_eq_true_eq]
    exact ⟨fun h => (mk_inj h).symm, fun h => by rw [h]⟩
  show (eqV (.str (Str.ofString "stop")) (.str (mk l)) || (eqV (.str (Str.ofString "we")) (.str (mk l)) || (eqV (.str (Str.ofString "they")) (.str (mk l)) || false))) = _
  rw [e, e, e, Bool.or_false]
theorem hands_cs : hand true = mk (cs "we") ∧ hand false = mk (cs "they") := by decide +kernel
theorem ok_stof (T : Txt w K mg) : Cl P w K mg base CX0 47 "statement_of" ["line"] (sp_stof (K := K)) := by
  have c_setting_of := ok_setof (P := P) (base := base) T
  have c_valued := ok_valued (P := P) (base := base) T
  have c_expression_of := ok_exof (P := P) (base := base) T
  have c_test_of := ok_teof (P := P) (base := base) T
  have c_integer_of := ok_intof (P := P) (base := base) T
  obtain ⟨fd, F⟩ := T.d_statement_of
  obtain ⟨_, hc_MOST_FIGURES⟩ := T.c_MOST_FIGURES
  refine ⟨_, fd, T.g_statement_of, F.kp, (FunD.bindsN F (fun _ _ _ _ _ _ us hl => match us, hl with | [_], _ => rfl)), F.ok sc_statement_of (fun vs H Q E h => ?len) (fun cdv A outer s H vs Q E hr h => ?run)⟩
  case len =>
    obtain ⟨l, rfl, _⟩ := h
    rfl
  refine ⟨_, PSs.nox (pss_cons (ps_if (pt_cmpR op_in_seq (pv 0) (pe_tup (pa_cons pe_str (pa_cons pe_str (pa_cons pe_str pa_nil)))) (by rfl)) (pss_one (ps_ret (pe_tup (pa_cons (pv 0) pa_nil)))) pss_nil)
      (pss_cons (ps_asg (show PE _ _ (tM1 rPart _ _) from pe_partition (pv 0) pe_str) (pg_tup rfl (pgs_cons (pg_name (i := 1) sc_statement_of.nd rfl (by first | exact Or.inl rfl | exact Or.inr rfl)) (pgs_cons (pg_name (i := 2) sc_statement_of.nd rfl (by first | exact Or.inl rfl | exact Or.inr rfl)) (pgs_cons (pg_name (i := 3) sc_statement_of.nd rfl (by first | exact Or.inl rfl | exact Or.inr rfl)) pgs_nil)))))
      (pss_cons (ps_if (pt_cmpR op_eq (pv 1) pe_str (nomark _)) (pss_one (ps_ret (pcl c_setting_of (hr.mono (by omega)) (pa_cons (pv 3) pa_nil)))) pss_nil)
      (pss_cons (ps_if (pt_cmpR op_eq (pv 1) pe_str (nomark _)) (pss_one (ps_ret (pcl c_valued (hr.mono (by omega)) (pa_cons (pv 1) (pa_cons (pcl c_expression_of (hr.mono (by omega)) (pa_cons (pv 3) pa_nil)) pa_nil))))) pss_nil)
      (pss_cons (ps_if (pt_cmpR op_eq (pv 1) pe_str (nomark _)) (pss_one (ps_ret (pcl c_valued (hr.mono (by omega)) (pa_cons (pv 1) (pa_cons (pcl c_test_of (hr.mono (by omega)) (pa_cons (pv 3) pa_nil)) pa_nil))))) pss_nil)
      (pss_one (ps_ret (pe_ifExp (pt_cmpR op_eq (pv 1) pe_str (nomark _)) (pcl c_valued (hr.mono (by omega)) (pa_cons (pv 1) (pa_cons (pcl c_integer_of (hr.mono (by omega)) (pa_cons (pv 3) (pa_cons (pe_glob (v := .int 20) rfl hc_MOST_FIGURES ⟨_, rfl⟩) pa_nil))) pa_nil))) pe_non)))))))), ?_⟩
  obtain ⟨l, rfl, hl, kk⟩ := h
  have h1 := bef_le l
  have h2 := aft_le l
  walk_at "st"
  refine i_new (by simp) fun p0 hp0 => ?_
  refine i_isT (.inl (.inl upd_same)) rfl rfl ?_
  walk_at "st"
  have s0 := Same.new (o := .tup [.str "stop", .str "we", .str "they"]) hp0
  rw [in3]
  have one : ∀ (hd : Hd), stOf l = some hd → hd.py = .tuple [.str (mk l)] → tRet (tTup (tCons (tVar 0) tNil)) { nx := fun _ H' => Q .non H', rt := Q } [some (.str (mk l)), none, none, none] (upd H p0 (.tup [.str "stop", .str "we", .str "they"])) := by
    intro hd e1 e2
    walk_at "st"
    refine i_new (by simp) fun q hq => ?_
    exact (kk _ (Same.grow s0 hq)).2 _ (by rw [e1]; exact congrArg some e2) _ (dp_of1 upd_same (.str _))
  by_cases n1 : l = cs "stop"
  · rw [decide_eq_true n1]
    refine i_ite rfl ?_
    exact one .stop (by unfold stOf; rw [if_pos n1]) (by rw [n1, ← kc]; rfl)
  by_cases n2 : l = cs "we"
  · rw [decide_eq_true n2]
    refine i_ite (by simp) ?_
    exact one (.cho true) (by unfold stOf; rw [if_neg n1, if_pos n2]) (by rw [n2, ← hands_cs.1]; rfl)
  by_cases n3 : l = cs "they"
  · rw [decide_eq_true n3]
    refine i_ite (by simp) ?_
    exact one (.cho false) (by unfold stOf; rw [if_neg n1, if_neg n2, if_pos n3]) (by rw [n3, ← hands_cs.2]; rfl)
  rw [decide_eq_false n1, decide_eq_false n2, decide_eq_false n3]
  unfold stOf at kk
  rw [if_neg n1, if_neg n2, if_neg n3] at kk
  refine i_itf rfl ?_
  walk_at "st"
  refine i_partn hl fun z1 p1 hp1 => ?_
  refine i_gtup (.inl (.inl upd_same)) rfl ?_
  refine i_gcons ?_
  walk_at "st"
  refine i_gcons ?_
  walk_at "st"
  refine i_gcons ?_
  walk_at "st"
  refine i_gnil ?_
  walk_at "st"
  have s1 := Same.grow (o := .tup [.str (mk (bef l)), .str z1, .str (mk (aft l))]) s0 hp1
  generalize upd (upd H p0 (.tup [.str "stop", .str "we", .str "they"])) p1 (.tup [.str (mk (bef l)), .str z1, .str (mk (aft l))]) = G1 at s1 ⊢
  rw [dec_kc]
  by_cases w1 : bef l = cs "set"
  · rw [decide_eq_true w1]
    rw [if_pos w1] at kk
    refine i_ite rfl ?_
    walk_at "st"
    exact ⟨_, rfl, by omega, fun G2 s2 => kk G2 (Same.trans s1 s2)⟩
  rw [decide_eq_false w1]
  rw [if_neg w1] at kk
  refine i_itf rfl ?_
  walk_at "st"
  rw [dec_kc]
  by_cases w2 : bef l = cs "pay"
  · rw [decide_eq_true w2]
    rw [if_pos w2] at kk
    refine i_ite rfl ?_
    walk_at "st"
    refine ⟨_, rfl, by omega, fun G2 s2 => ⟨fun en => ?_, fun d ed u hu => ?_⟩⟩
    · walk_at "st"
      refine ⟨_, _, rfl, fun _ => ?_, fun z => absurd rfl z⟩
      exact (kk _ (Same.trans s1 s2)).1 (by cases z : exOf (aft l) with | none => rfl | some q => rw [z] at en; cases en)
    · cases z : exOf (aft l) with
      | none => rw [z] at ed; cases ed
      | some q =>
        rw [z] at ed kk
        cases ed
        walk_at "st"
        refine ⟨_, _, rfl, fun y => absurd y (ex_ne hu), fun _ p hp => ?_⟩
        refine (kk _ (Same.grow (Same.trans s1 s2) hp)).2 _ rfl _ (dp_of2 upd_same ?_ (dp_mono (Same.new hp) hu))
        rw [w2, ← kc]; exact .str _
  rw [decide_eq_false w2]
  rw [if_neg w2] at kk
  refine i_itf rfl ?_
  walk_at "st"
  rw [dec_kc]
  by_cases w3 : bef l = cs "if"
  · rw [decide_eq_true w3]
    rw [if_pos w3] at kk
    refine i_ite rfl ?_
    walk_at "st"
    refine ⟨_, rfl, by omega, fun G2 s2 => ⟨fun en => ?_, fun d ed u hu => ?_⟩⟩
    · walk_at "st"
      refine ⟨_, _, rfl, fun _ => ?_, fun z => absurd rfl z⟩
      exact (kk _ (Same.trans s1 s2)).1 (by cases z : teOf (aft l) with | none => rfl | some q => rw [z] at en; cases en)
    · cases z : teOf (aft l) with
      | none => rw [z] at ed; cases ed
      | some q =>
        rw [z] at ed kk
        cases ed
        walk_at "st"
        refine ⟨_, _, rfl, fun y => absurd y (te_ne hu), fun _ p hp => ?_⟩
        refine (kk _ (Same.grow (Same.trans s1 s2) hp)).2 _ rfl _ (dp_of2 upd_same ?_ (dp_mono (Same.new hp) hu))
        rw [w3, ← kc]; exact .str _
  rw [decide_eq_false w3]
  rw [if_neg w3] at kk
  refine i_itf rfl ?_
  walk_at "st"
  rw [dec_kc]
  by_cases w4 : bef l = cs "repeat"
  · rw [decide_eq_true w4]
    rw [if_pos w4] at kk
    refine i_ite rfl ?_
    walk_at "st"
    refine ⟨_, rfl, by omega, fun G2 s2 => ?_⟩
    walk_at "st"
    cases z : intOf (aft l) 20 with
    | none =>
      rw [z] at kk
      refine ⟨_, _, rfl, fun _ => (kk _ (Same.trans s1 s2)).1 rfl, fun z => absurd rfl z⟩
    | some q =>
      rw [z] at kk
      refine ⟨_, _, rfl, fun y => (by cases y), fun _ p hp => ?_⟩
      refine (kk _ (Same.grow (Same.trans s1 s2) hp)).2 _ rfl _ (dp_of2 upd_same ?_ (.int _))
      rw [w4, ← kc]; exact .str _
  rw [decide_eq_false w4]
  rw [if_neg w4] at kk
  refine i_itf rfl ?_
  walk_at "st"
  exact (kk _ s1).1 rfl
end
end K04
/-! text E0 -/
set_option Elab.async false
set_option linter.all false
set_option maxRecDepth 100000
set_option maxHeartbeats 4000000
/-! The reader in the heap -/
namespace K04
open PySem PySem.Spec PyProof.Rows L2 TL
def Kd.str : Kd → Str
  | .prog => "program" | .ifk _ => "if" | .cho h => hand h | .rep _ => "repeat" | .els => "else" | .orr => "or"
def Kd.head : Kd → PyData
  | .prog => .tuple [] | .ifk t => .tuple [.str "if", t.py] | .cho h => .tuple [.str (hand h)] | .rep k => .tuple [.str "repeat", .int k] | .els => .tuple [] | .orr => .tuple []
theorem noL_head (k : Kd) : noL k.head = true := by
  cases k <;> simp [Kd.head, noL, noLs, noL_te]
def ptF (t : Pt) (hv : V) (R : Addr) : List (Str × V) := [("kind", .str t.kd.str), ("head", hv), ("rows", .ref R), ("is_over", .bl t.over)]
structure PtAt (K : PySem.W.Frag) (H : Hp) (p R : Addr) (t : Pt) : Prop where
  obj : ∃ dx hv, H p = some (.ins (He.ga K "Part") dx (ptF t hv R)) ∧ Dp K H hv t.kd.head
  rows : ∃ xs, H R = some (.lst xs) ∧ DpAll K H xs (Sm.pys t.rows)
section
variable {K : PySem.W.Frag} {H H' H0 : Hp} {p R r L a : Addr} {t : Pt} {S : List Pt} {as : List (Addr × Addr)} {o : HO}
theorem PtAt.mono (h : PtAt K H p R t) (s : Same H H') : PtAt K H' p R t := by
  obtain ⟨⟨dx, hv, e, d⟩, ⟨xs, e2, d2⟩⟩ := h
  exact ⟨⟨dx, hv, s _ _ e, dp_mono s d⟩, ⟨xs, s _ _ e2, dpa_mono s d2⟩⟩
theorem PtAt.upd (h : PtAt K H p R t) (hp : p ≠ a) (hR : R ≠ a) (tk : TK H (upd H a o)) : PtAt K (upd H a o) p R t := by
  obtain ⟨⟨dx, hv, e, d⟩, ⟨xs, e2, d2⟩⟩ := h
  exact ⟨⟨dx, hv, by rw [upd_ne hp]; exact e, dp_tk tk (noL_head _) d⟩, ⟨xs, by rw [upd_ne hR]; exact e2, dpa_tk tk (noL_sms _) d2⟩⟩
def PtsAt (K : PySem.W.Frag) (H : Hp) : List (Addr × Addr) → List Pt → Prop
  | [], [] => True
  | a :: as, t :: S => PtAt K H a.1 a.2 t ∧ PtsAt K H as S
  | _, _ => False
theorem PtsAt.mono (s : Same H H') : ∀ {as : List (Addr × Addr)} {S : List Pt}, PtsAt K H as S → PtsAt K H' as S
  | [], [], _ => trivial
  | a :: as, t :: S, h => ⟨h.1.mono s, PtsAt.mono s h.2⟩
  | [], _ :: _, h => h.elim
  | _ :: _, [], h => h.elim
theorem PtsAt.upd (tk : TK H (upd H a o)) : ∀ {as : List (Addr × Addr)} {S : List Pt}, PtsAt K H as S → a ∉ as.map (·.1) → a ∉ as.map (·.2) → PtsAt K (L2.upd H a o) as S
  | [], [], _, _, _ => trivial
  | b :: as, t :: S, h, h1, h2 => by
    simp only [List.map_cons, List.mem_cons, not_or] at h1 h2
    exact ⟨h.1.upd (fun z => h1.1 z.symm) (fun z => h2.1 z.symm) tk, PtsAt.upd tk h.2 h1.2 h2.2⟩
  | [], _ :: _, h, _, _ => h.elim
  | _ :: _, [], h, _, _ => h.elim
theorem PtsAt.len : ∀ {as : List (Addr × Addr)} {S : List Pt}, PtsAt K H as S → as.length = S.length
  | [], [], _ => rfl
  | a :: as, t :: S, h => by rw [List.length_cons, List.length_cons, PtsAt.len h.2]
  | [], _ :: _, h => h.elim
  | _ :: _, [], h => h.elim
theorem PtsAt.get : ∀ {as : List (Addr × Addr)} {S : List Pt} {i : Nat} {t : Pt}, PtsAt K H as S → S[i]? = some t → ∃ b, as[i]? = some b ∧ PtAt K H b.1 b.2 t
  | [], [], _, _, _, e => by cases e
  | b :: as, t :: S, 0, _, h, e => by cases e; exact ⟨b, rfl, h.1⟩
  | b :: as, t :: S, i + 1, _, h, e => PtsAt.get (i := i) h.2 e
  | [], _ :: _, _, _, h, _ => h.elim
  | _ :: _, [], _, _, h, _ => h.elim
def pref (as : List (Addr × Addr)) : List V := (as.map fun b => V.ref b.1).reverse
theorem pref_cons (b : Addr × Addr) (as : List (Addr × Addr)) : pref (b :: as) = pref as ++ [.ref b.1] := by unfold pref; simp
theorem pref_len (as : List (Addr × Addr)) : (pref as).length = as.length := by unfold pref; simp
structure Rdr (K : PySem.W.Frag) (H0 H : Hp) (r L : Addr) (as : List (Addr × Addr)) (S : List Pt) : Prop where
  same : Same H0 H
  obj : ∃ dr, H r = some (.ins (He.ga K "ProgramReader") dr [("blocks_open", .ref L)])
  lst : H L = some (.lst (pref as))
  pts : PtsAt K H as S
  ndp : (as.map (·.1)).Nodup
  ndr : (L :: as.map (·.2)).Nodup
  nr : H0 r = none
  nl : H0 L = none
  na : ∀ b ∈ as, H0 b.1 = none ∧ H0 b.2 = none
theorem Rdr.mono (h : Rdr K H0 H r L as S) (s : Same H H') : Rdr K H0 H' r L as S := by
  obtain ⟨dr, e⟩ := h.obj
  exact ⟨Same.trans h.same s, ⟨dr, s _ _ e⟩, s _ _ h.lst, h.pts.mono s, h.ndp, h.ndr, h.nr, h.nl, h.na⟩
theorem ne_ll {b : Addr} {xs : List V} {C dx : Addr} {fs : List (Str × V)} (h1 : H a = some (.lst xs)) (h2 : H b = some (.ins C dx fs)) : a ≠ b := ne_of h1 h2 (by intro z; cases z)
/-- a part's rows are another list -/
theorem Rdr.rows {b : Addr × Addr} {xs' : List V} {rows' : List Sm} (h : Rdr K H0 H r L (b :: as) (t :: S)) (hx : DpAll K (upd H b.2 (.lst xs')) xs' (Sm.pys rows')) :
    Rdr K H0 (upd H b.2 (.lst xs')) r L (b :: as) ({ t with rows := rows' } :: S) := by
  obtain ⟨dr, er⟩ := h.obj
  obtain ⟨⟨dx, hv, e, d⟩, ⟨xs, e2, d2⟩⟩ := h.pts.1
  have nr : r ≠ b.2 := (ne_ll e2 er).symm
  have nd := h.ndr
  simp only [List.map_cons, List.nodup_cons, List.mem_cons, not_or] at nd
  have nL : L ≠ b.2 := nd.1.1
  have np : b.1 ≠ b.2 := (ne_ll e2 e).symm
  have tk : TK H (upd H b.2 (.lst xs')) := TK.lst e2
  have nb : b.2 ∉ as.map (·.1) := fun z => by
    obtain ⟨c, hc, e3⟩ := List.mem_map.mp z
    have key : ∀ {as : List (Addr × Addr)} {S : List Pt}, PtsAt K H as S → c ∈ as → ∃ dx fs, H c.1 = some (.ins (He.ga K "Part") dx fs) := by
      intro as
      induction as with
      | nil => intro S _ hc; cases hc
      | cons a as ih =>
        intro S hp hc
        cases S with
        | nil => exact hp.elim
        | cons t S =>
          rcases List.mem_cons.mp hc with rfl | hc
          · obtain ⟨⟨dx, hv, e, d⟩, _⟩ := hp.1; exact ⟨_, _, e⟩
          · exact ih hp.2 hc
    obtain ⟨_, _, e4⟩ := key h.pts.2 hc
    exact (ne_ll e2 e4) e3.symm
  refine ⟨Same.mut h.same (h.na b List.mem_cons_self).2, ⟨dr, by rw [upd_ne nr]; exact er⟩, by rw [upd_ne nL]; exact h.lst, ⟨⟨⟨dx, hv, by rw [upd_ne np]; exact e, dp_tk tk (noL_head _) d⟩, ⟨xs', upd_same, hx⟩⟩, PtsAt.upd tk h.pts.2 nb nd.2.1⟩, h.ndp, h.ndr, h.nr, h.nl, h.na⟩
theorem pts_ins : ∀ {as : List (Addr × Addr)} {S : List Pt} {c : Addr × Addr}, PtsAt K H as S → c ∈ as → (∃ dx fs, H c.1 = some (.ins (He.ga K "Part") dx fs)) ∧ ∃ xs, H c.2 = some (.lst xs)
  | [], _, _, _, hc => by cases hc
  | a :: as, [], _, hp, _ => hp.elim
  | a :: as, t :: S, c, hp, hc => by
    rcases List.mem_cons.mp hc with rfl | hc
    · obtain ⟨⟨dx, hv, e, d⟩, ⟨xs, e2, _⟩⟩ := hp.1; exact ⟨⟨_, _, e⟩, ⟨_, e2⟩⟩
    · exact pts_ins hp.2 hc
/-- the part itself is another -/
theorem Rdr.over {b : Addr × Addr} {dx : Addr} {hv : V} (h : Rdr K H0 H r L (b :: as) (t :: S)) (e : H b.1 = some (.ins (He.ga K "Part") dx (ptF t hv b.2))) (d : Dp K H hv t.kd.head) (v : Bool) :
    Rdr K H0 (upd H b.1 (.ins (He.ga K "Part") dx (ptF { t with over := v } hv b.2))) r L (b :: as) ({ t with over := v } :: S) := by
  obtain ⟨dr, er⟩ := h.obj
  obtain ⟨_, ⟨xs, e2, d2⟩⟩ := h.pts.1
  have nr : r ≠ b.1 := ne_of er e (fun z => by injection z with z1 z2 z3; injection z3 with z4 z5; injection z4 with z6 z7; cases (show False from absurd z6 (by decide +kernel)))
  have nd := h.ndp
  simp only [List.map_cons, List.nodup_cons] at nd
  have nL : L ≠ b.1 := ne_ll h.lst e
  have np : b.2 ≠ b.1 := ne_ll e2 e
  have tk : TK H (upd H b.1 (.ins (He.ga K "Part") dx (ptF { t with over := v } hv b.2))) := TK.ins e
  have nb : b.1 ∉ as.map (·.2) := fun z => by
    obtain ⟨c, hc, e3⟩ := List.mem_map.mp z
    obtain ⟨_, ⟨ys, e4⟩⟩ := pts_ins h.pts.2 hc
    exact (ne_ll e4 e) e3
  refine ⟨Same.mut h.same (h.na b List.mem_cons_self).1, ⟨dr, by rw [upd_ne nr]; exact er⟩, by rw [upd_ne nL]; exact h.lst, ⟨⟨⟨dx, hv, upd_same, dp_tk tk (noL_head _) d⟩, ⟨xs, by rw [upd_ne np]; exact e2, dpa_tk tk (noL_sms _) d2⟩⟩, PtsAt.upd tk h.pts.2 nd.1 nb⟩, h.ndp, h.ndr, h.nr, h.nl, h.na⟩
theorem not_part (h : Rdr K H0 H r L as S) : L ∉ as.map (·.1) := fun z => by
  obtain ⟨c, hc, e3⟩ := List.mem_map.mp z
  obtain ⟨⟨_, _, e4⟩, _⟩ := pts_ins h.pts hc
  exact (ne_ll h.lst e4) e3.symm
/-- the innermost part is taken off -/
theorem Rdr.pop {b : Addr × Addr} (h : Rdr K H0 H r L (b :: as) (t :: S)) : Rdr K H0 (upd H L (.lst (pref as))) r L as S ∧ PtAt K (upd H L (.lst (pref as))) b.1 b.2 t := by
  obtain ⟨dr, er⟩ := h.obj
  have np := not_part h
  have nd := h.ndr
  simp only [List.map_cons, List.nodup_cons, List.mem_cons, not_or] at nd
  have ndp := h.ndp
  simp only [List.map_cons, List.nodup_cons] at ndp
  simp only [List.map_cons, List.mem_cons, not_or] at np
  have nr : r ≠ L := (ne_ll h.lst er).symm
  have tk : TK H (upd H L (.lst (pref as))) := TK.lst h.lst
  refine ⟨⟨Same.mut h.same h.nl, ⟨dr, by rw [upd_ne nr]; exact er⟩, upd_same, PtsAt.upd tk h.pts.2 np.2 nd.1.2, ndp.2, ?_, h.nr, h.nl, fun b hb => h.na b (List.mem_cons_of_mem _ hb)⟩, h.pts.1.upd (fun z => np.1 z.symm) (fun z => nd.1.1 z.symm) tk⟩
  rw [List.nodup_cons]
  exact ⟨nd.1.2, nd.2.2⟩
/-- a part is laid on top -/
theorem Rdr.push {b : Addr × Addr} (h : Rdr K H0 H r L as S) (hp : PtAt K H b.1 b.2 t) (n1 : H0 b.1 = none) (n2 : H0 b.2 = none) (d1 : b.1 ∉ as.map (·.1)) (d2 : b.2 ∉ as.map (·.2)) (d3 : b.2 ≠ L) :
    Rdr K H0 (upd H L (.lst (pref as ++ [.ref b.1]))) r L (b :: as) (t :: S) := by
  obtain ⟨dr, er⟩ := h.obj
  have np := not_part h
  have nr : r ≠ L := (ne_ll h.lst er).symm
  have tk : TK H (upd H L (.lst (pref as ++ [.ref b.1]))) := TK.lst h.lst
  obtain ⟨⟨dx, hv, e, d⟩, _⟩ := id hp
  have n3 : b.1 ≠ L := (ne_ll h.lst e).symm
  have nd := h.ndr
  rw [List.nodup_cons] at nd
  refine ⟨Same.mut h.same h.nl, ⟨dr, by rw [upd_ne nr]; exact er⟩, by rw [upd_same, pref_cons], ⟨hp.upd n3 d3 tk, PtsAt.upd tk h.pts np nd.1⟩, ?_, ?_, h.nr, h.nl, ?_⟩
  · rw [List.map_cons, List.nodup_cons]; exact ⟨d1, h.ndp⟩
  · rw [List.map_cons, List.nodup_cons, List.nodup_cons, List.mem_cons, not_or]
    exact ⟨⟨fun z => d3 z.symm, nd.1⟩, d2, nd.2⟩
  · intro c hc
    rcases List.mem_cons.mp hc with rfl | hc
    · exact ⟨n1, n2⟩
    · exact h.na c hc
/-- a fresh address is none of the reader's -/
theorem Rdr.fresh (h : Rdr K H0 H r L as S) (ha : H a = none) : a ∉ as.map (·.1) ∧ a ∉ as.map (·.2) ∧ a ≠ L ∧ a ≠ r := by
  obtain ⟨dr, er⟩ := h.obj
  refine ⟨fun z => ?_, fun z => ?_, fun z => ?_, fun z => ?_⟩
  · obtain ⟨c, hc, rfl⟩ := List.mem_map.mp z
    obtain ⟨⟨_, _, e4⟩, _⟩ := pts_ins h.pts hc
    rw [ha] at e4; cases e4
  · obtain ⟨c, hc, rfl⟩ := List.mem_map.mp z
    obtain ⟨_, ⟨_, e4⟩⟩ := pts_ins h.pts hc
    rw [ha] at e4; cases e4
  · subst z; rw [h.lst] at ha; cases ha
  · subst z; rw [er] at ha; cases ha
end
section
variable {K : PySem.W.Frag} {H : Hp} {Q : VK} {R : Hp → Prop} {v u : V} {p : Addr} {xs : List V} {i : Int}
theorem i_neg (k : Q (.int (-i)) H) : rU (fun i => .int (-i)) (.int i) H Q := ⟨i, rfl, k⟩
theorem i_last (h : SqL K H p (xs ++ [v])) (k : Q v H) : rIxL K (.ref p) (.int (-1)) H Q := ⟨p, _, _, v, rfl, rfl, h, atI_last xs v, k⟩
theorem i_setLast (h : H p = some (.lst (xs ++ [u]))) (k : R (upd H p (.lst (xs ++ [v])))) : rSetL (.ref p) (.int (-1)) v H R := by
  refine ⟨p, _, -1, xs.length, rfl, rfl, h, ?_, ?_⟩
  · unfold ixN
    simp
    omega
  · rw [List.set_append_right _ _ (Nat.le_refl _), Nat.sub_self]
    exact k
end
end K04
/-! text E1 -/
set_option Elab.async false
set_option linter.all false
set_option maxRecDepth 100000
set_option maxHeartbeats 4000000
namespace K04
open PySem PySem.Spec PyProof.Rows L2 TL
local macro_rules
  | `(tactic| walk_at "st") => `(tactic| repeat (with_reducible first
    | refine i_seq ?_ | refine i_ret ?_ | refine i_asg ?_ | refine i_name ?_ | refine i_ifs ?_ | refine i_test ?_ | refine i_B ?_ | refine i_bl ?_ | refine i_var (by with_unfolding_all rfl) ?_ | refine i_c ?_
    | refine i_op ?_ | refine i_un ?_ | refine i_cb ?_ | refine i_cons ?_ | refine i_nil ?_ | refine i_call ?_ | refine i_and ?_ | refine i_or ?_ | refine i_not ?_ | refine i_andV ?_ | refine i_orV ?_ | refine i_notV ?_ | refine i_if ?_
    | refine i_tup ?_ | refine i_lst ?_ | refine i_sl ?_ | refine i_nopart ?_ | refine i_part ?_ | refine i_int ?_ | refine i_chain ?_ | refine i_I0 ?_ | refine i_par ?_ | refine i_two ?_ | refine i_bm ?_ | refine i_bm0 ?_ | refine i_m1 ?_ | refine i_tyS ?_ | refine i_str ?_
    | refine i_for ?_ | refine i_iTup ?_ | refine i_iList ?_ | refine i_iStr ?_ | refine i_iRng1 ?_ | refine i_iRng2 ?_ | refine i_iEnum ?_ | refine i_lc ?_ | refine i_yes ?_ | refine i_revL ?_ | refine i_fld ?_ | refine i_sfld ?_ | refine i_meth ?_ | refine i_make ?_ | refine i_isN ?_ | refine i_neg ?_ | refine i_notN ?_ | refine i_intB ?_ | refine i_intI ?_
    | refine i_next ?_ | refine i_drop ?_ | refine i_retN ?_ | refine i_gsub ?_ | refine i_ipI ?_ | refine i_aug (by with_unfolding_all rfl) ?_
    | refine i_eq (by with_unfolding_all rfl) ?_ | refine i_ne (by with_unfolding_all rfl) ?_))
abbrev N_Part_init : List Str := ["self", "kind", "head"]
theorem sc_Part_init : FnScope N_Part_init ["self", "kind", "head"] (defScope s_Part_init) := ⟨rfl, rfl, rfl, by decide +kernel, rfl, by decide +kernel, by decide +kernel⟩
abbrev N_Part_lacks_line : List Str := ["self"]
theorem sc_Part_lacks_line : FnScope N_Part_lacks_line ["self"] (defScope s_Part_lacks_line) := ⟨rfl, rfl, rfl, by decide +kernel, rfl, by decide +kernel, by decide +kernel⟩
abbrev N_ProgramReader_init : List Str := ["self"]
theorem sc_ProgramReader_init : FnScope N_ProgramReader_init ["self"] (defScope s_ProgramReader_init) := ⟨rfl, rfl, rfl, by decide +kernel, rfl, by decide +kernel, by decide +kernel⟩
/-- a method -/
def Mt (P : Program) (w : World) (K : PySem.W.Frag) (mg : Str → Option Value) (base : Heap) (k : Nat) (key : Str × Option Str) (ps : List Str) (sp : Sp) : Prop :=
  ∃ (fd : FuncData), Binds K fd ps [] ∧ FnOk P w K mg base CX0 k (He.fAd K key) fd ps sp
section
variable {P : Program} {w : World} {K : PySem.W.Frag} {mg : Str → Option Value} {base : Heap}
theorem pf_le {f : Str} {v : V} {fs : List (Str × V)} {n : Nat} (h : fs.length ≤ n) : (putF f v fs).length ≤ n + 1 := Nat.le_trans (length_putF f v fs) (Nat.add_le_add_right h 1)
theorem pf0 : ([] : List (Str × V)).length ≤ 0 := Nat.le_refl 0
abbrev PFs (kk : Str) (hv : V) (R : Addr) (ov : Bool) : List (Str × V) := [("kind", .str kk), ("head", hv), ("rows", .ref R), ("is_over", .bl ov)]
def sp_Pinit : Sp := fun vs H Q _ => ∃ (x dx : Addr) (kk : Str) (hv : V), vs = [.ref x, .str kk, hv] ∧ H x = some (.ins (He.ga K "Part") dx []) ∧
  ∀ (H' : Hp) (R : Addr), H R = none → H' x = some (.ins (He.ga K "Part") dx (PFs kk hv R false)) → H' R = some (.lst []) → (∀ b o, b ≠ x → H b = some o → H' b = some o) → Q .non H'
theorem ok_Pinit (T : Txt w K mg) : Mt P w K mg base 1 ("Part", some "__init__") ["self", "kind", "head"] (sp_Pinit (K := K)) := by
  obtain ⟨fd, F⟩ := T.d_Part_init
  refine ⟨fd, (FunD.bindsN F (fun _ _ _ _ _ _ us hl => match us, hl with | [_, _, _], _ => rfl)), F.ok sc_Part_init (fun vs H Q E h => ?len) (fun cdv A outer s H vs Q E hr h => ?run)⟩
  case len =>
    obtain ⟨x, dx, kk, hv, rfl, _⟩ := h
    rfl
  refine ⟨_, PSs.nox (pss_cons (ps_fld (pv 0) (pv 1) rfl)
      (pss_cons (ps_fld (pv 0) (pv 2) rfl)
      (pss_cons (ps_fld (pv 0) (pe_lst pa_nil) rfl)
      (pss_one (ps_fld (pv 0) pe_bl rfl))))), ?_⟩
  obtain ⟨x, dx, kk, hv, rfl, hx, k⟩ := h
  walk_at "st"
  refine ⟨x, _, dx, _, rfl, hx, T.cls_Part, T.na_Part_kind, by decide, ?_⟩
  walk_at "st"
  refine ⟨x, _, dx, _, rfl, upd_same, T.cls_Part, T.na_Part_head, Nat.lt_of_le_of_lt (pf_le pf0) (by decide), ?_⟩
  walk_at "st"
  refine i_new (by simp) fun R hR => ?_
  walk_at "st"
  have xR : x ≠ R := ne_of_none upd_same hR
  refine ⟨x, _, dx, _, rfl, by rw [upd_ne xR]; exact upd_same, T.cls_Part, T.na_Part_rows, Nat.lt_of_le_of_lt (pf_le (pf_le pf0)) (by decide), ?_⟩
  walk_at "st"
  refine ⟨x, _, dx, _, rfl, upd_same, T.cls_Part, T.na_Part_is_over, Nat.lt_of_le_of_lt (pf_le (pf_le (pf_le pf0))) (by decide), ?_⟩
  walk_at "st"
  have hR0 : H R = none := by rw [upd_ne xR.symm, upd_ne xR.symm] at hR; exact hR
  refine k _ R hR0 (by rw [upd_same]; rfl) (by rw [upd_ne xR.symm, upd_ne xR.symm, upd_same]) ?_
  intro b o hb e
  have bR : b ≠ R := ne_of_none e hR0
  rw [upd_ne hb, upd_ne hb, upd_ne bR, upd_ne hb, upd_ne hb]
  exact e
def sp_Placks : Sp := fun vs H Q _ => ∃ (p R : Addr) (t : Pt), vs = [.ref p] ∧ PtAt K H p R t ∧ ∀ H', Same H H' → Q (.bl t.lacks) H'
theorem kd_prog (k : Kd) : decide (V.str k.str = .str "program") = k.isProg := by
  cases k with
  | cho h => cases h <;> decide +kernel
  | prog => decide +kernel
  | ifk t => (show decide (V.str "if" = _) = false); decide +kernel
  | rep n => (show decide (V.str "repeat" = _) = false); decide +kernel
  | els => decide +kernel
  | orr => decide +kernel
theorem pys_empty (l : List Sm) : (Sm.pys l).isEmpty = l.isEmpty := by cases l <;> rfl
theorem dpa_empty {H : Hp} {xs : List V} {l : List Sm} (h : DpAll K H xs (Sm.pys l)) : xs.isEmpty = l.isEmpty := by
  cases l with
  | nil => obtain rfl := dpa_nil h; rfl
  | cons s r => obtain ⟨_, _, rfl, _, _⟩ := dpa_cons h; rfl
theorem ok_Placks (T : Txt w K mg) : Mt P w K mg base 1 ("Part", some "lacks_line") ["self"] (sp_Placks (K := K)) := by
  obtain ⟨fd, F⟩ := T.d_Part_lacks_line
  obtain ⟨_, hc_HEAD⟩ := T.c_HEAD
  refine ⟨fd, (FunD.bindsN F (fun _ _ _ _ _ _ us hl => match us, hl with | [_], _ => rfl)), F.ok sc_Part_lacks_line (fun vs H Q E h => ?len) (fun cdv A outer s H vs Q E hr h => ?run)⟩
  case len =>
    obtain ⟨p, R, t, rfl, _⟩ := h
    rfl
  refine ⟨_, PSs.nox (pss_one (ps_ret (pe_and (pe_cmpR op_ne (pe_fld (pv 0) rfl) (pe_glob (v := .str "program") rfl hc_HEAD ⟨_, rfl⟩) (nomark _)) (pe_and (pe_cmpR (op_eqN hr.units0) (pe_fld (pv 0) rfl) (pe_lst pa_nil) (nomark _)) (pe_one (pe_not (pe_fld (pv 0) rfl))))))), ?_⟩
  obtain ⟨p, R, t, rfl, ⟨⟨dx, hv, e, d⟩, ⟨xs, e2, d2⟩⟩, k⟩ := h
  walk_at "st"
  refine i_fld1 e T.cls_Part T.na_Part_kind rfl ?_
  walk_at "st"
  rw [kd_prog]
  have el : t.lacks = (!t.kd.isProg && (t.rows.isEmpty && !t.over)) := rfl
  cases hp : t.kd.isProg with
  | true =>
    refine i_itf rfl ?_
    have := k _ (Same.refl _)
    rw [el, hp] at this
    exact this
  | false =>
    refine i_ite rfl ?_
    walk_at "st"
    refine i_fld1 e T.cls_Part T.na_Part_rows rfl ?_
    walk_at "st"
    refine i_new (by simp) fun q hq => ?_
    have sq := Same.new (o := .lst []) hq
    refine i_eqNL (.inl (.inl (sq _ _ e2))) (.inl (.inl upd_same)) ?_
    walk_at "st"
    rw [dpa_empty d2]
    cases hr : t.rows.isEmpty with
    | false =>
      refine i_itf rfl ?_
      have := k _ sq
      rw [el, hp, hr] at this
      exact this
    | true =>
      refine i_ite rfl ?_
      walk_at "st"
      refine i_fld1 (sq _ _ e) T.cls_Part T.na_Part_is_over rfl ?_
      walk_at "st"
      have := k _ sq
      rw [el, hp, hr] at this
      exact this
/-- a new part -/
theorem new_pt {H' : Hp} {x dx R : Addr} {kd : Kd} {hv : V} (e : H' x = some (.ins (He.ga K "Part") dx (PFs kd.str hv R false))) (e2 : H' R = some (.lst [])) (d : Dp K H' hv kd.head) : PtAt K H' x R (Pt.new kd) := ⟨⟨dx, hv, e, d⟩, ⟨[], e2, .nil⟩⟩
def sp_Rinit : Sp := fun vs H Q _ => ∃ (r dr : Addr) (H0 : Hp), vs = [.ref r] ∧ H r = some (.ins (He.ga K "ProgramReader") dr []) ∧ Same H0 H ∧ H0 r = none ∧ ∀ (H' : Hp) (L : Addr) (as : List (Addr × Addr)), Rdr K H0 H' r L as start0 → Q .non H'
theorem ok_Rinit (T : Txt w K mg) : Mt P w K mg base 3 ("ProgramReader", some "__init__") ["self"] (sp_Rinit (K := K)) := by
  obtain ⟨_, bI_Part, GI_Part⟩ := ok_Pinit (P := P) (base := base) T
  obtain ⟨fd, F⟩ := T.d_ProgramReader_init
  obtain ⟨_, hc_HEAD⟩ := T.c_HEAD
  refine ⟨fd, (FunD.bindsN F (fun _ _ _ _ _ _ us hl => match us, hl with | [_], _ => rfl)), F.ok sc_ProgramReader_init (fun vs H Q E h => ?len) (fun cdv A outer s H vs Q E hr h => ?run)⟩
  case len =>
    obtain ⟨r, dr, H0, rfl, _⟩ := h
    rfl
  refine ⟨_, PSs.nox (pss_one (ps_fld (pv 0) (pe_lst (pa_cons (pe_make T.mk_Part GI_Part (hr.mono (by omega)) rfl T.g_Part bI_Part .nil pass0 (pa_cons (pe_glob (v := .str "program") rfl hc_HEAD ⟨_, rfl⟩) (pa_cons (pe_tup pa_nil) pa_nil))) pa_nil)) rfl)), ?_⟩
  obtain ⟨r, dr, H0, rfl, hr2, s0, n0, k⟩ := h
  walk_at "st"
  refine i_new (by simp) fun t ht => ?_
  walk_at "st"
  intro x dx hx hdx ne
  have hx1 : (upd (upd (upd H t (.tup [])) dx (.own x)) x (.ins (He.ga K "Part") dx [])) x = some (.ins (He.ga K "Part") dx []) := upd_same
  have sT := Same.new (o := .tup []) ht
  have hxd : upd (upd H t (.tup [])) dx (.own x) x = none := by rw [upd_ne ne.symm]; exact hx
  have s2 : Same H (upd (upd (upd H t (.tup [])) dx (.own x)) x (.ins (He.ga K "Part") dx [])) := Same.grow (Same.grow sT hdx) hxd
  refine ⟨x, dx, _, _, rfl, hx1, fun H' R hR hx' hR' keep => ⟨rfl, ?_⟩⟩
  have s3 : Same H H' := fun b o e => keep b o (fun z => by subst z; rw [sT.free hx] at e; cases e) (s2 _ _ e)
  walk_at "st"
  refine i_new (by simp) fun L hL => ?_
  walk_at "st"
  have s4 := Same.grow (o := .lst [.ref x]) s3 hL
  refine ⟨r, _, dr, _, rfl, s4 _ _ hr2, T.cls_ProgramReader, T.na_ProgramReader_blocks_open, by decide, ?_⟩
  have xr : x ≠ r := fun z => by subst z; rw [sT.free hx] at hr2; cases hr2
  have tr : t ≠ r := fun z => by subst z; rw [ht] at hr2; cases hr2
  have hRH : H R = none := s2.free hR
  have Rr : R ≠ r := fun z => by subst z; rw [hRH] at hr2; cases hr2
  have hLH : H L = none := s3.free hL
  have Lr : L ≠ r := fun z => by subst z; rw [hLH] at hr2; cases hr2
  have LR : R ≠ L := ne_of_none hR' hL
  have Lx : x ≠ L := ne_of_none hx' hL
  refine k _ L [(x, R)] ⟨?_, ⟨dr, upd_same⟩, ?_, ⟨⟨⟨dx, .ref t, ?_, ?_⟩, ⟨[], ?_, .nil⟩⟩, trivial⟩, by simp, by simp; exact fun z => LR z.symm, n0, s0.free hLH, ?_⟩
  · exact Same.mut (Same.trans s0 s4) n0
  · rw [upd_ne Lr, upd_same]; rfl
  · rw [upd_ne xr, upd_ne Lx]; exact hx'
  · have tx : t ≠ x := ne_of_none upd_same hx
    have tdx : t ≠ dx := ne_of_none upd_same hdx
    have e1 : H' t = some (.tup []) := keep t _ tx (by rw [upd_ne tx, upd_ne tdx, upd_same])
    have tL : t ≠ L := ne_of_none e1 hL
    exact .tup (.inl (.inl (by rw [upd_ne tr, upd_ne tL]; exact e1))) .nil
  · rw [upd_ne Rr, upd_ne LR]; exact hR'
  · intro b hb
    rw [List.mem_singleton] at hb
    subst hb
    exact ⟨s0.free (sT.free hx), s0.free hRH⟩
end
end K04
/-! text E2 -/
set_option Elab.async false
set_option linter.all false
set_option maxRecDepth 100000
set_option maxHeartbeats 4000000
namespace K04
open PySem PySem.Spec PyProof.Rows L2 TL
local macro_rules
  | `(tactic| walk_at "st") => `(tactic| repeat (with_reducible first
    | refine i_seq ?_ | refine i_ret ?_ | refine i_asg ?_ | refine i_name ?_ | refine i_ifs ?_ | refine i_test ?_ | refine i_B ?_ | refine i_bl ?_ | refine i_var (by with_unfolding_all rfl) ?_ | refine i_c ?_
    | refine i_op ?_ | refine i_un ?_ | refine i_cb ?_ | refine i_cons ?_ | refine i_nil ?_ | refine i_call ?_ | refine i_and ?_ | refine i_or ?_ | refine i_not ?_ | refine i_andV ?_ | refine i_orV ?_ | refine i_notV ?_ | refine i_if ?_
    | refine i_tup ?_ | refine i_lst ?_ | refine i_sl ?_ | refine i_nopart ?_ | refine i_part ?_ | refine i_int ?_ | refine i_chain ?_ | refine i_I0 ?_ | refine i_par ?_ | refine i_two ?_ | refine i_bm ?_ | refine i_bm0 ?_ | refine i_m1 ?_ | refine i_tyS ?_ | refine i_str ?_
    | refine i_for ?_ | refine i_iTup ?_ | refine i_iList ?_ | refine i_iStr ?_ | refine i_iRng1 ?_ | refine i_iRng2 ?_ | refine i_iEnum ?_ | refine i_lc ?_ | refine i_yes ?_ | refine i_revL ?_ | refine i_fld ?_ | refine i_sfld ?_ | refine i_meth ?_ | refine i_make ?_ | refine i_isN ?_ | refine i_neg ?_ | refine i_notN ?_ | refine i_intB ?_ | refine i_intI ?_
    | refine i_next ?_ | refine i_drop ?_ | refine i_retN ?_ | refine i_gsub ?_ | refine i_ipI ?_ | refine i_aug (by with_unfolding_all rfl) ?_
    | refine i_eq (by with_unfolding_all rfl) ?_ | refine i_ne (by with_unfolding_all rfl) ?_))
abbrev N_ProgramReader_close : List Str := ["self", "part", "block", "outer"]
theorem sc_ProgramReader_close : FnScope N_ProgramReader_close ["self"] (defScope s_ProgramReader_close) := ⟨rfl, rfl, rfl, by decide +kernel, rfl, by decide +kernel, by decide +kernel⟩
section
variable {P : Program} {w : World} {K : PySem.W.Frag} {mg : Str → Option Value} {base : Heap}
def sp_close : Sp := fun vs H Q _ => ∃ (H0 : Hp) (r L : Addr) (a1 a2 : Addr × Addr) (as : List (Addr × Addr)) (T O : Pt) (rest : List Pt), vs = [.ref r] ∧ Rdr K H0 H r L (a1 :: a2 :: as) (T :: O :: rest) ∧ Fits T O ∧ szS (T :: O :: rest) ≤ 500 ∧
  ∀ H', Rdr K H0 H' r L (a2 :: as) (absorb T O :: rest) → Q .non H'
theorem pys_app (a b : List Sm) : Sm.pys (a ++ b) = Sm.pys a ++ Sm.pys b := by rw [pys_eq, pys_eq, pys_eq, List.map_append]
theorem noLs_app {a b : List PyData} (h : noLs (a ++ b) = true) : noLs a = true ∧ noLs b = true := by
  induction a with
  | nil => exact ⟨rfl, h⟩
  | cons d r ih =>
    have h2 : (noL d && noLs (r ++ b)) = true := h
    rw [Bool.and_eq_true] at h2
    obtain ⟨i1, i2⟩ := ih h2.2
    exact ⟨by show (noL d && noLs r) = true; rw [h2.1, i1]; rfl, i2⟩
theorem kd_words : (decide (V.str "if" = .str "else") = false ∧ decide (V.str "if" = .str "or") = false) ∧ (decide (V.str "or" = .str "else") = false) ∧ (decide (V.str "repeat" = .str "else") = false ∧ decide (V.str "repeat" = .str "or") = false ∧ decide (V.str "repeat" = .str "if") = false) := by decide +kernel
theorem kd_hand (h : Bool) : decide (V.str (hand h) = .str "else") = false ∧ decide (V.str (hand h) = .str "or") = false ∧ decide (V.str (hand h) = .str "if") = false := by cases h <;> decide +kernel
theorem ok_close (T : Txt w K mg) : Mt P w K mg base 1 ("ProgramReader", some "close") ["self"] (sp_close (K := K)) := by
  obtain ⟨fd, F⟩ := T.d_ProgramReader_close
  refine ⟨fd, (FunD.bindsN F (fun _ _ _ _ _ _ us hl => match us, hl with | [_], _ => rfl)), F.ok sc_ProgramReader_close (fun vs H Q E h => ?len) (fun cdv A outer s H vs Q E hr h => ?run)⟩
  case len =>
    obtain ⟨H0, r, L, a1, a2, as, T', O, rest, rfl, _⟩ := h
    rfl
  refine ⟨_, PSs.nox (pss_cons (ps_set (i := 1) sc_ProgramReader_close.nd rfl (by first | exact Or.inl rfl | exact Or.inr rfl) (pe_bm0 PySem.F.plainAttrs_list PySem.F.slot_list_pop PySem.F.type_list_pop mt_pop (pe_fld (pv 0) rfl)))
      (pss_cons (ps_par (i := 2) (j := 3) (by rfl) sc_ProgramReader_close.nd rfl rfl (by decide) rfl rfl (pa_cons (pe_callTy call_tuple_of (by rfl) T.f_tuple (by decide +kernel) (pa_cons (pe_fld (pv 1) rfl) pa_nil)) (pa_cons (pe_ix ix_list (pe_fld (pv 0) rfl) (pe_un un_neg pe_int) (fun _ _ => rfl)) pa_nil)) (by rfl))
      (pss_one (ps_if (pt_cmpR op_eq (pe_fld (pv 1) rfl) pe_str (nomark _)) (pss_one (ps_asg (pe_op op_catA (pe_slice sl_tupA (pe_ix ix_list (pe_fld (pv 3) rfl) (pe_un un_neg pe_int) (fun _ _ => rfl)) po_none (po_some pe_int)) (pe_tup (pa_cons (pv 2) pa_nil))) (pg_sub (pe_fld (pv 3) rfl) (pe_un un_neg pe_int) set_list))) (pss_one (ps_if (pt_cmpR op_eq (pe_fld (pv 1) rfl) pe_str (nomark _)) (pss_one (ps_asg (pe_op op_catA (pe_ix ix_list (pe_fld (pv 3) rfl) (pe_un un_neg pe_int) (fun _ _ => rfl)) (pe_tup (pa_cons (pv 2) pa_nil))) (pg_sub (pe_fld (pv 3) rfl) (pe_un un_neg pe_int) set_list))) (pss_one (ps_if (pt_cmpR op_eq (pe_fld (pv 1) rfl) pe_str (nomark _)) (pss_one (ps_expr (pe_bm PySem.F.plainAttrs_list PySem.F.slot_list_append PySem.F.type_list_append mt_append (pe_fld (pv 3) rfl) (pa_cons (pe_op op_catA (pe_fld (pv 1) rfl) (pe_tup (pa_cons (pv 2) (pa_cons (pe_tup pa_nil) pa_nil)))) pa_nil)))) (pss_one (ps_expr (pe_bm PySem.F.plainAttrs_list PySem.F.slot_list_append PySem.F.type_list_append mt_append (pe_fld (pv 3) rfl) (pa_cons (pe_op op_catA (pe_fld (pv 1) rfl) (pe_tup (pa_cons (pv 2) pa_nil))) pa_nil)))))))))))), ?_⟩
  obtain ⟨H0, r, L, a1, a2, as, T', O, rest, rfl, hR, hf, hsz, k⟩ := h
  obtain ⟨dr, er⟩ := hR.obj
  have hl1 := hR.lst
  rw [pref_cons] at hl1
  obtain ⟨h1, hT⟩ := hR.pop
  walk_at "st"
  refine i_fld1 er T.cls_ProgramReader T.na_ProgramReader_blocks_open rfl ?_
  refine i_tyL (.inl (.inl hl1)) ?_
  refine i_pop hl1 ?_
  walk_at "st"
  generalize hG1 : upd H L (.lst (pref (a2 :: as))) = G1 at h1 hT ⊢
  obtain ⟨⟨dx, hv, eT, dhv⟩, ⟨xsT, eR, dxs⟩⟩ := id hT
  refine i_fld1 eT T.cls_Part T.na_Part_rows rfl ?_
  walk_at "st"
  refine ⟨a1.2, xsT, rfl, .inl ⟨.inl (.inl eR), fun bl hbl => ?_⟩⟩
  walk_at "st"
  have s2 := Same.new (o := .tup xsT) hbl
  have h2 := h1.mono s2
  have hT2 := hT.mono s2
  have dbl : Dp K (upd G1 bl (.tup xsT)) (.ref bl) (bpy T'.rows) := .tup (.inl (.inl upd_same)) (dpa_mono s2 dxs)
  generalize hG2 : upd G1 bl (.tup xsT) = G2 at s2 h2 hT2 dbl ⊢
  obtain ⟨dr2, er2⟩ := h2.obj
  have hl2 := h2.lst
  rw [pref_cons] at hl2
  refine i_fld1 er2 T.cls_ProgramReader T.na_ProgramReader_blocks_open rfl ?_
  walk_at "st"
  refine i_last (.inl (.inl hl2)) ?_
  walk_at "st"
  obtain ⟨⟨dx2, hv2, eT2, dhv2⟩, _⟩ := hT2
  refine i_fld1 eT2 T.cls_Part T.na_Part_kind rfl ?_
  walk_at "st"
  obtain ⟨⟨dxo, hvo, eO, dho⟩, ⟨xsO, eRO, dxO⟩⟩ := h2.pts.1
  have hszO : O.rows.length ≤ 500 := by rw [szS_cons, szS_cons] at hsz; omega
  have hxO : xsO.length = O.rows.length := by rw [dpa_len dxO, pys_eq, List.length_map]
  -- the end, wherever the rows are known
  have done : ∀ (G : Hp) (xs' : List V) (rows' : List Sm), Same G2 G → absRows T'.kd T'.rows O.rows = rows' → DpAll K G xs' (Sm.pys rows') → Q .non (upd G a2.2 (.lst xs')) := by
    intro G xs' rows' sG e d
    have h3 := h2.mono sG
    have tk : TK G (upd G a2.2 (.lst xs')) := TK.lst (sG _ _ eRO)
    have h4 := h3.rows (rows' := rows') (dpa_tk tk (noL_sms _) d)
    refine k _ ?_
    unfold absorb
    rw [e]
    exact h4
  -- rows.append(head + tail)
  obtain ⟨kd, rowsT, ov⟩ := T'
  cases kd with
  | els =>
    refine i_ite (by show decide (V.str "else" = .str "else") = true; decide +kernel) ?_
    obtain ⟨a, t, y, n, ea⟩ := hf.2.1 rfl
    rw [ea, pys_app] at dxO
    obtain ⟨ys, u, rfl, dys, du⟩ := dpa_snoc dxO
    obtain ⟨q, u1, u2, u3, u4, rfl, hq, d1, d2, d3, d4⟩ := dp_t4 du
    obtain rfl := dp_str d1
    walk_at "st"
    refine i_fld1 eO T.cls_Part T.na_Part_rows rfl ?_
    walk_at "st"
    refine i_last (.inl (.inl eRO)) ?_
    walk_at "st"
    refine i_slA hq (fun z => absurd z.2 (by decide : ¬ HT.sIx 4 4 (some 3) = 4)) fun p1 hp1 => ?_
    walk_at "st"
    refine i_new (by simp) fun p2 hp2 => ?_
    have sp1 := Same.new (o := .tup (cutV [.str "if", u2, u3, u4] none (some 3))) hp1
    have sp2 := Same.grow (o := .tup [.ref bl]) sp1 hp2
    refine i_catA (xs := [.str "if", u2, u3]) (zs := [.ref bl]) (.inl (.inl ((Same.new hp2) _ _ upd_same))) (.inl (.inl upd_same)) (by simp) (by simp) (by simp) fun p3 hp3 => ?_
    walk_at "st"
    have sp3 := Same.grow (o := .tup ([.str "if", u2, u3] ++ [.ref bl])) sp2 hp3
    refine i_fld1 (sp3 _ _ eO) T.cls_Part T.na_Part_rows rfl ?_
    walk_at "st"
    refine i_setLast (sp3 _ _ eRO) ?_
    refine done _ _ (a ++ [.ift t y rowsT]) sp3 ?_ ?_
    · show mapLast (addNo rowsT) O.rows = _
      rw [ea, mapLast_app]; rfl
    · rw [pys_app]
      exact dpa_app (dpa_mono sp3 dys) (.cons (dp_of4 upd_same (.str _) (dp_mono sp3 d2) (dp_mono sp3 d3) (dp_mono sp3 dbl)) .nil)
  | orr =>
    refine i_itf kd_words.2.1 ?_
    walk_at "st"
    refine i_fld1 eT2 T.cls_Part T.na_Part_kind rfl ?_
    walk_at "st"
    refine i_ite (by show decide (V.str "or" = .str "or") = true; decide +kernel) ?_
    obtain ⟨a, hh, x, ea⟩ := hf.2.2 rfl
    rw [ea, pys_app] at dxO
    obtain ⟨ys, u, rfl, dys, du⟩ := dpa_snoc dxO
    obtain ⟨q, u1, u2, rfl, hq, d1, d2⟩ := dp_t2 du
    obtain rfl := dp_str d1
    walk_at "st"
    refine i_fld1 eO T.cls_Part T.na_Part_rows rfl ?_
    walk_at "st"
    refine i_last (.inl (.inl eRO)) ?_
    walk_at "st"
    refine i_new (by simp) fun p2 hp2 => ?_
    have sp2 := Same.new (o := .tup [.ref bl]) hp2
    refine i_catA (Same.tup sp2 hq) (.inl (.inl upd_same)) (by simp) (by simp) (by simp) fun p3 hp3 => ?_
    walk_at "st"
    have sp3 := Same.grow (o := .tup ([.str (hand hh), u2] ++ [.ref bl])) sp2 hp3
    refine i_fld1 (sp3 _ _ eO) T.cls_Part T.na_Part_rows rfl ?_
    walk_at "st"
    refine i_setLast (sp3 _ _ eRO) ?_
    refine done _ _ (a ++ [.cho hh x rowsT]) sp3 ?_ ?_
    · show mapLast (addOther rowsT) O.rows = _
      rw [ea, mapLast_app]; rfl
    · rw [pys_app]
      exact dpa_app (dpa_mono sp3 dys) (.cons (dp_of3 upd_same (.str _) (dp_mono sp3 d2) (dp_mono sp3 dbl)) .nil)
  | ifk t =>
    refine i_itf kd_words.1.1 ?_
    walk_at "st"
    refine i_fld1 eT2 T.cls_Part T.na_Part_kind rfl ?_
    walk_at "st"
    refine i_itf kd_words.1.2 ?_
    walk_at "st"
    refine i_fld1 eT2 T.cls_Part T.na_Part_kind rfl ?_
    walk_at "st"
    refine i_ite (by show decide (V.str "if" = .str "if") = true; decide +kernel) ?_
    obtain ⟨q, u1, u2, rfl, hq, d1, d2⟩ := dp_t2 dhv2
    obtain rfl := dp_str d1
    walk_at "st"
    refine i_fld1 eO T.cls_Part T.na_Part_rows rfl ?_
    refine i_tyL (.inl (.inl eRO)) ?_
    walk_at "st"
    refine i_fld1 eT2 T.cls_Part T.na_Part_head rfl ?_
    walk_at "st"
    refine i_new (by simp) fun p1 hp1 => ?_
    walk_at "st"
    refine i_new (by simp) fun p2 hp2 => ?_
    have sp1 := Same.new (o := .tup []) hp1
    have sp2 := Same.grow (o := .tup [.ref bl, .ref p1]) sp1 hp2
    refine i_catA (Same.tup sp2 hq) (.inl (.inl upd_same)) (by simp) (by simp) (by simp) fun p3 hp3 => ?_
    walk_at "st"
    have sp3 := Same.grow (o := .tup ([.str "if", u2] ++ [.ref bl, .ref p1])) sp2 hp3
    refine i_append (sp3 _ _ eRO) (by omega) ?_
    walk_at "st"
    have d1' : Dp K (upd (upd (upd G2 p1 (.tup [])) p2 (.tup [.ref bl, .ref p1])) p3 (.tup ([.str "if", u2] ++ [.ref bl, .ref p1]))) (.ref p1) (.tuple []) := .tup (.inl (.inl ((Same.new hp3) _ _ ((Same.new hp2) _ _ upd_same)))) .nil
    refine done _ _ (O.rows ++ [.ift t rowsT []]) sp3 rfl ?_
    rw [pys_app]
    exact dpa_app (dpa_mono sp3 dxO) (.cons (dp_of4 upd_same (.str _) (dp_mono sp3 d2) (dp_mono sp3 dbl) d1') .nil)
  | cho hh =>
    refine i_itf (kd_hand hh).1 ?_
    walk_at "st"
    refine i_fld1 eT2 T.cls_Part T.na_Part_kind rfl ?_
    walk_at "st"
    refine i_itf (kd_hand hh).2.1 ?_
    walk_at "st"
    refine i_fld1 eT2 T.cls_Part T.na_Part_kind rfl ?_
    walk_at "st"
    refine i_itf (kd_hand hh).2.2 ?_
    obtain ⟨q, u1, rfl, hq, d1⟩ := dp_t1 dhv2
    obtain rfl := dp_str d1
    walk_at "st"
    refine i_fld1 eO T.cls_Part T.na_Part_rows rfl ?_
    refine i_tyL (.inl (.inl eRO)) ?_
    walk_at "st"
    refine i_fld1 eT2 T.cls_Part T.na_Part_head rfl ?_
    walk_at "st"
    refine i_new (by simp) fun p2 hp2 => ?_
    have sp2 := Same.new (o := .tup [.ref bl]) hp2
    refine i_catA (Same.tup sp2 hq) (.inl (.inl upd_same)) (by simp) (by simp) (by simp) fun p3 hp3 => ?_
    walk_at "st"
    have sp3 := Same.grow (o := .tup ([.str (hand hh)] ++ [.ref bl])) sp2 hp3
    refine i_append (sp3 _ _ eRO) (by omega) ?_
    walk_at "st"
    refine done _ _ (O.rows ++ [.half hh rowsT]) sp3 rfl ?_
    rw [pys_app]
    exact dpa_app (dpa_mono sp3 dxO) (.cons (dp_of2 upd_same (.str _) (dp_mono sp3 dbl)) .nil)
  | rep m =>
    refine i_itf kd_words.2.2.1 ?_
    walk_at "st"
    refine i_fld1 eT2 T.cls_Part T.na_Part_kind rfl ?_
    walk_at "st"
    refine i_itf kd_words.2.2.2.1 ?_
    walk_at "st"
    refine i_fld1 eT2 T.cls_Part T.na_Part_kind rfl ?_
    walk_at "st"
    refine i_itf kd_words.2.2.2.2 ?_
    obtain ⟨q, u1, u2, rfl, hq, d1, d2⟩ := dp_t2 dhv2
    obtain rfl := dp_str d1
    walk_at "st"
    refine i_fld1 eO T.cls_Part T.na_Part_rows rfl ?_
    refine i_tyL (.inl (.inl eRO)) ?_
    walk_at "st"
    refine i_fld1 eT2 T.cls_Part T.na_Part_head rfl ?_
    walk_at "st"
    refine i_new (by simp) fun p2 hp2 => ?_
    have sp2 := Same.new (o := .tup [.ref bl]) hp2
    refine i_catA (Same.tup sp2 hq) (.inl (.inl upd_same)) (by simp) (by simp) (by simp) fun p3 hp3 => ?_
    walk_at "st"
    have sp3 := Same.grow (o := .tup ([.str "repeat", u2] ++ [.ref bl])) sp2 hp3
    refine i_append (sp3 _ _ eRO) (by omega) ?_
    walk_at "st"
    refine done _ _ (O.rows ++ [.rep m rowsT]) sp3 rfl ?_
    rw [pys_app]
    exact dpa_app (dpa_mono sp3 dxO) (.cons (dp_of3 upd_same (.str _) (dp_mono sp3 d2) (dp_mono sp3 dbl)) .nil)
  | prog => cases hf.1
end
end K04
/-! text E3 -/
set_option Elab.async false
set_option linter.all false
set_option maxRecDepth 100000
set_option maxHeartbeats 4000000
namespace K04
open PySem PySem.Spec PyProof.Rows L2 TL
local macro_rules
  | `(tactic| walk_at "st") => `(tactic| repeat (with_reducible first
    | refine i_seq ?_ | refine i_ret ?_ | refine i_asg ?_ | refine i_name ?_ | refine i_ifs ?_ | refine i_test ?_ | refine i_B ?_ | refine i_bl ?_ | refine i_var (by with_unfolding_all rfl) ?_ | refine i_c ?_
    | refine i_op ?_ | refine i_un ?_ | refine i_cb ?_ | refine i_cons ?_ | refine i_nil ?_ | refine i_call ?_ | refine i_and ?_ | refine i_or ?_ | refine i_not ?_ | refine i_andV ?_ | refine i_orV ?_ | refine i_notV ?_ | refine i_if ?_
    | refine i_tup ?_ | refine i_lst ?_ | refine i_sl ?_ | refine i_nopart ?_ | refine i_part ?_ | refine i_int ?_ | refine i_chain ?_ | refine i_I0 ?_ | refine i_par ?_ | refine i_two ?_ | refine i_bm ?_ | refine i_bm0 ?_ | refine i_m1 ?_ | refine i_tyS ?_ | refine i_str ?_
    | refine i_for ?_ | refine i_iTup ?_ | refine i_iList ?_ | refine i_iStr ?_ | refine i_iRng1 ?_ | refine i_iRng2 ?_ | refine i_iEnum ?_ | refine i_lc ?_ | refine i_yes ?_ | refine i_revL ?_ | refine i_fld ?_ | refine i_sfld ?_ | refine i_meth ?_ | refine i_make ?_ | refine i_isN ?_ | refine i_neg ?_ | refine i_notN ?_ | refine i_intB ?_ | refine i_intI ?_
    | refine i_next ?_ | refine i_drop ?_ | refine i_retN ?_ | refine i_gsub ?_ | refine i_ipI ?_ | refine i_aug (by with_unfolding_all rfl) ?_
    | refine i_eq (by with_unfolding_all rfl) ?_ | refine i_ne (by with_unfolding_all rfl) ?_))
abbrev N_ProgramReader_come_to : List Str := ["self", "depth"]
theorem sc_ProgramReader_come_to : FnScope N_ProgramReader_come_to ["self", "depth"] (defScope s_ProgramReader_come_to) := ⟨rfl, rfl, rfl, by decide +kernel, rfl, by decide +kernel, by decide +kernel⟩
abbrev N_ProgramReader_lacks_line : List Str := ["self", "part"]
theorem sc_ProgramReader_lacks_line : FnScope N_ProgramReader_lacks_line ["self"] (defScope s_ProgramReader_lacks_line) := ⟨rfl, rfl, rfl, by decide +kernel, rfl, by decide +kernel, by decide +kernel⟩
abbrev N_ProgramReader_put : List Str := ["self", "statement"]
theorem sc_ProgramReader_put : FnScope N_ProgramReader_put ["self", "statement"] (defScope s_ProgramReader_put) := ⟨rfl, rfl, rfl, by decide +kernel, rfl, by decide +kernel, by decide +kernel⟩
section
variable {P : Program} {w : World} {K : PySem.W.Frag} {mg : Str → Option Value} {base : Heap}
def sp_come : Sp := fun vs H Q _ => ∃ (H0 : Hp) (r L : Addr) (as : List (Addr × Addr)) (S : List Pt) (d m : Nat), vs = [.ref r, .int (d : Int)] ∧ Rdr K H0 H r L as S ∧ Wf S ∧ szS S ≤ 500 ∧ S.length = d + 1 + m ∧
  ∀ H' as', Rdr K H0 H' r L as' (closeN m S) → Q .non H'
theorem ok_come (T : Txt w K mg) : Mt P w K mg base 2 ("ProgramReader", some "come_to") ["self", "depth"] (sp_come (K := K)) := by
  obtain ⟨_, b_ProgramReader_close, G_ProgramReader_close⟩ := ok_close (P := P) (base := base) T
  obtain ⟨fd, F⟩ := T.d_ProgramReader_come_to
  refine ⟨fd, (FunD.bindsN F (fun _ _ _ _ _ _ us hl => match us, hl with | [_, _], _ => rfl)), F.ok sc_ProgramReader_come_to (fun vs H Q E h => ?len) (fun cdv A outer s H vs Q E hr h => ?run)⟩
  case len =>
    obtain ⟨H0, r, L, as, S, d, m, rfl, _⟩ := h
    rfl
  refine ⟨_, PSs.nox (pss_one (ps_while PassesOwn.never (pt_cmpR op_gt (pe_op op_sub (pe_callB call_lenX (by rfl) T.f_len (by decide +kernel) (pa_cons (pe_fld (pv 0) rfl) pa_nil)) pe_int) (pv 1) (nomark _)) (pss_one (ps_expr (pe_meth0 (pv 0) T.cls_ProgramReader T.m_ProgramReader_close G_ProgramReader_close (hr.mono (by omega)) b_ProgramReader_close .nil pass0))))), ?_⟩
  obtain ⟨H0, r, L, as, S, d, m, rfl, hR, hw, hsz, hlen, k⟩ := h
  refine i_while ⟨fun m' σ G => ∃ as' S', σ = [some (.ref r), some (.int (d : Int))] ∧ Rdr K H0 G r L as' S' ∧ Wf S' ∧ szS S' ≤ 500 ∧ S'.length = d + 1 + m' ∧ closeN m' S' = closeN m S, ⟨m, as, S, rfl, hR, hw, hsz, hlen, rfl⟩, ?_⟩
  rintro m' σ G ⟨as', S', rfl, hR', hw', hsz', hlen', hcl⟩
  obtain ⟨dr, er⟩ := hR'.obj
  have hpl := hR'.pts.len
  walk_at "st"
  refine i_fld1 er T.cls_ProgramReader T.na_ProgramReader_blocks_open rfl ?_
  walk_at "st"
  refine i_lenL (.inl (.inl hR'.lst)) ?_
  walk_at "st"
  rw [pref_len, hpl]
  cases m' with
  | zero =>
    refine i_itf (decide_eq_false (by omega)) ?_
    exact k G as' (by rw [← hcl]; exact hR')
  | succ m' =>
    refine i_ite (decide_eq_true (by omega)) ?_
    refine i_N ?_
    walk_at "st"
    refine ⟨r, dr, _, rfl, er, rfl, ?_⟩
    walk_at "st"
    match S', as', hR', hw', hsz', hlen', hcl, hpl with
    | T' :: O :: rest, a1 :: a2 :: as2, hR', hw', hsz', hlen', hcl, hpl =>
      refine ⟨H0, r, L, a1, a2, as2, T', O, rest, rfl, hR', hw'.1, hsz', fun G2 h2 => ?_⟩
      walk_at "st"
      exact ⟨m', Nat.lt_succ_self _, a2 :: as2, absorb T' O :: rest, rfl, h2, hw'.abs, Nat.le_trans (szS_abs _ _ _) hsz', by simp only [List.length_cons] at hlen' ⊢; omega, hcl⟩
    | [], _, _, hw', _, _, _, _ => exact hw'.elim
    | [_], _, _, _, _, hlen', _, _ => simp at hlen'; omega
    | _ :: _ :: _, [], _, _, _, _, _, hpl => simp at hpl
    | _ :: _ :: _, [_], _, _, _, _, _, hpl => simp at hpl
/-! lacks_line -/
def sp_Rlacks : Sp := fun vs H Q _ => ∃ (H0 : Hp) (r L : Addr) (as : List (Addr × Addr)) (S : List Pt), vs = [.ref r] ∧ Rdr K H0 H r L as S ∧ S ≠ [] ∧ szS S ≤ 500 ∧ ∀ H', Same H H' → Q (.bl (lacksR S)) H'
theorem kd_hands (k : Kd) : inV (.str k.str) [.str "we", .str "they"] = k.isHand := by
  cases k with
  | cho h => exact hw_hand h
  | prog => decide +kernel
  | ifk t => exact hw_if
  | rep n => exact hw_rep
  | els => decide +kernel
  | orr => decide +kernel
theorem pref_get {H : Hp} {as : List (Addr × Addr)} {S : List Pt} {j : Nat} {x : V} (h : PtsAt K H as S) (e : (pref as)[j]? = some x) : ∃ (b : Addr × Addr) (t : Pt), x = .ref b.1 ∧ S.reverse[j]? = some t ∧ PtAt K H b.1 b.2 t := by
  have hl := h.len
  unfold pref at e
  rw [← List.map_reverse, List.getElem?_map] at e
  cases hb : as.reverse[j]? with
  | none => rw [hb] at e; cases e
  | some b =>
    rw [hb] at e
    cases e
    have hj : j < as.length := by
      have := (List.getElem?_eq_some_iff.mp hb).1
      rw [List.length_reverse] at this; exact this
    rw [List.getElem?_reverse hj] at hb
    have hS : j < S.length := by omega
    obtain ⟨t, ht⟩ : ∃ t, S[S.length - 1 - j]? = some t := ⟨_, List.getElem?_eq_getElem (by omega)⟩
    obtain ⟨b', hb', hp⟩ := h.get ht
    rw [← hl] at hb'
    rw [hb'] at hb
    cases hb
    exact ⟨b, t, rfl, by rw [List.getElem?_reverse hS]; exact ht, hp⟩
theorem ok_Rlacks (T : Txt w K mg) : Mt P w K mg base 2 ("ProgramReader", some "lacks_line") ["self"] (sp_Rlacks (K := K)) := by
  obtain ⟨_, b_Part_lacks_line, G_Part_lacks_line⟩ := ok_Placks (P := P) (base := base) T
  obtain ⟨fd, F⟩ := T.d_ProgramReader_lacks_line
  refine ⟨fd, (FunD.bindsN F (fun _ _ _ _ _ _ us hl => match us, hl with | [_], _ => rfl)), F.ok sc_ProgramReader_lacks_line (fun vs H Q E h => ?len) (fun cdv A outer s H vs Q E hr h => ?run)⟩
  case len =>
    obtain ⟨H0, r, L, as, S, rfl, _⟩ := h
    rfl
  refine ⟨_, PSs.nox (pss_one (ps_ret (pe_or (pe_meth0 (pe_ix ix_list (pe_fld (pv 0) rfl) (pe_un un_neg pe_int) (fun _ _ => rfl)) T.cls_Part T.m_Part_lacks_line G_Part_lacks_line (hr.mono (by omega)) b_Part_lacks_line .nil pass0) (pe_one (pe_cmpR (op_neN hr.units0) (pe_lc (own := [("part", 1)]) rfl sc_ProgramReader_lacks_line.nd (pi_list (pe_fld (pv 0) rfl)) (blkOk_by (own := [("part", 1)]) (N := N_ProgramReader_lacks_line) (sc := (defScope s_ProgramReader_lacks_line)) (by decide +kernel)) (fun _ _ _ _ _ => pg_name (i := 1) sc_ProgramReader_lacks_line.nd rfl (Or.inl rfl)) (fun _ _ _ _ _ => (pts_one (pt_cmpR (show OpR _ _ (rIn K false) from op_in_seq) (show PE _ _ (tFld K _ _) from pe_fld (pv 1) rfl) (pe_glob (v := .ref _) rfl T.g_HANDS rfl) (by rfl)))) (fun _ _ _ _ _ => (pv 1))) (pe_lst pa_nil) (nomark _)))))), ?_⟩
  obtain ⟨H0, r, L, as, S, rfl, hR, hne, hsz, k⟩ := h
  obtain ⟨dr, er⟩ := hR.obj
  match S, as, hR, hne, hsz, k with
  | [], _, _, hne, _, _ => exact absurd rfl hne
  | _ :: _, [], hR, _, _, _ => exact hR.pts.elim
  | t :: S2, b :: as2, hR, hne, hsz, k =>
    have hl := hR.lst
    rw [pref_cons] at hl
    obtain ⟨dxp, hvp, ep, dp⟩ := hR.pts.1.obj
    walk_at "st"
    refine i_fld1 er T.cls_ProgramReader T.na_ProgramReader_blocks_open rfl ?_
    walk_at "st"
    refine i_last (.inl (.inl hl)) ?_
    refine ⟨b.1, dxp, _, rfl, ep, rfl, ?_⟩
    walk_at "st"
    refine ⟨b.1, b.2, t, rfl, hR.pts.1, fun H1 s1 => ?_⟩
    walk_at "st"
    have el : lacksR (t :: S2) = (t.lacks || (t :: S2).any (·.kd.isHand)) := rfl
    cases htl : t.lacks with
    | true =>
      refine i_ite rfl ?_
      have := k _ s1
      rw [el, htl] at this
      exact this
    | false =>
      refine i_itf rfl ?_
      walk_at "st"
      refine i_fld1 (s1 _ _ er) T.cls_ProgramReader T.na_ProgramReader_blocks_open rfl ?_
      have hR1 := hR.mono s1
      have hxl := pref_len (b :: as2)
      have hpl := hR.pts.len
      have hsl := szS_len (t :: S2)
      refine ⟨L, rfl, ⟨_, .inl (.inl hR1.lst)⟩, fun D hD => ?_⟩
      refine lc_it (walk_list (xs := pref (b :: as2))) (fun j G => Same H1 G ∧ ∃ acc, G D = some (.lst acc) ∧ acc.length ≤ j ∧ acc.isEmpty = !(((t :: S2).reverse.take j).any (·.kd.isHand))) ⟨Same.new hD, [], upd_same, Nat.le_refl _, rfl⟩ (fun j G _ h => .inl (.inl (h.1 _ _ hR1.lst))) ?_ ?_
      · rintro j x G G' hj ⟨sG, acc, gD, hacc, he⟩ ⟨rfl, hx⟩
        obtain ⟨c, tc, rfl, htc, hpc⟩ := pref_get (hR1.mono sG).pts hx
        obtain ⟨⟨dxc, hvc, ec, dc⟩, _⟩ := hpc
        have etk : (t :: S2).reverse.take (j + 1) = (t :: S2).reverse.take j ++ [tc] := take_next htc
        walk_at "st"
        refine ⟨rfl, ?_⟩
        walk_at "st"
        refine i_fld1 ec T.cls_Part T.na_Part_kind rfl ?_
        walk_at "st"
        refine i_isT (T.t_HANDS _) rfl rfl ?_
        walk_at "st"
        rw [kd_hands]
        cases hh : tc.kd.isHand with
        | true =>
          refine i_ite rfl ?_
          walk_at "st"
          refine ⟨acc, gD, szl (by omega), Same.mut sG hD, acc ++ [.ref c.1], upd_same, by simp; omega, ?_⟩
          rw [etk, List.any_append]
          simp [hh]
        | false =>
          refine i_itf rfl ⟨sG, acc, gD, by omega, ?_⟩
          rw [etk, List.any_append, he]
          simp [hh]
      · rintro G ⟨sG, acc, gD, hacc, he⟩
        walk_at "st"
        refine i_new (by simp) fun q hq => ?_
        refine i_neNL (.inl (.inl ((Same.new hq) _ _ gD))) (.inl (.inl upd_same)) ?_
        have := k _ (Same.grow (o := .lst []) (Same.trans s1 sG) hq)
        rw [el, htl] at this
        rw [he, Bool.not_not, hxl, hpl, List.take_of_length_le (by rw [List.length_reverse]; exact Nat.le_refl _), List.any_reverse]
        exact this
/-! put -/
def Hd.wd : Hd → Str
  | .set _ _ => "set" | .pay _ => "pay" | .stop => "stop" | .ift _ => "if" | .cho h => hand h | .rep _ => "repeat"
theorem hd_head {H : Hp} {v : V} {h : Hd} (d : Dp K H v h.py) : ∃ p xs, v = .ref p ∧ SqT K H p (.str h.wd :: xs) := by
  cases h with
  | set x e => obtain ⟨p, u1, u2, u3, rfl, hs, h1, h2, h3⟩ := dp_t3 d; obtain rfl := dp_str h1; exact ⟨p, _, rfl, hs⟩
  | pay e => obtain ⟨p, u1, u2, rfl, hs, h1, h2⟩ := dp_t2 d; obtain rfl := dp_str h1; exact ⟨p, _, rfl, hs⟩
  | stop => obtain ⟨p, u1, rfl, hs, h1⟩ := dp_t1 d; obtain rfl := dp_str h1; exact ⟨p, _, rfl, hs⟩
  | ift t => obtain ⟨p, u1, u2, rfl, hs, h1, h2⟩ := dp_t2 d; obtain rfl := dp_str h1; exact ⟨p, _, rfl, hs⟩
  | cho b => obtain ⟨p, u1, rfl, hs, h1⟩ := dp_t1 d; obtain rfl := dp_str h1; exact ⟨p, _, rfl, hs⟩
  | rep k => obtain ⟨p, u1, u2, rfl, hs, h1, h2⟩ := dp_t2 d; obtain rfl := dp_str h1; exact ⟨p, _, rfl, hs⟩
def Hd.kd : Hd → Option Kd
  | .ift t => some (.ifk t) | .cho b => some (.cho b) | .rep k => some (.rep k) | _ => none
def Hd.sm : Hd → Sm
  | .set x e => .set x e | .pay e => .pay e | _ => .stop
theorem hw_set4 : inV (.str "set") [.str "if", .str "repeat", .str "we", .str "they"] = false ∧ inV (.str "pay") [.str "if", .str "repeat", .str "we", .str "they"] = false ∧ inV (.str "stop") [.str "if", .str "repeat", .str "we", .str "they"] = false ∧
  inV (.str "if") [.str "if", .str "repeat", .str "we", .str "they"] = true ∧ inV (.str "repeat") [.str "if", .str "repeat", .str "we", .str "they"] = true := by decide +kernel
theorem hw_hand4 (h : Bool) : inV (.str (hand h)) [.str "if", .str "repeat", .str "we", .str "they"] = true := by cases h <;> decide +kernel
theorem hd_opens (h : Hd) : inV (.str h.wd) [.str "if", .str "repeat", .str "we", .str "they"] = h.kd.isSome := by
  cases h with
  | set x e => exact hw_set4.1
  | pay e => exact hw_set4.2.1
  | stop => exact hw_set4.2.2.1
  | ift t => exact hw_set4.2.2.2.1
  | cho b => exact hw_hand4 b
  | rep k => exact hw_set4.2.2.2.2
theorem push_kd {h : Hd} {kd : Kd} {C : Pt} {q : List Pt} (e : h.kd = some kd) : push h C q = Pt.new kd :: C :: q ∧ kd.str = h.wd ∧ kd.head = h.py := by
  cases h <;> cases e <;> exact ⟨rfl, rfl, rfl⟩
theorem push_sm {h : Hd} {C : Pt} {q : List Pt} (e : h.kd = none) : push h C q = { C with rows := C.rows ++ [h.sm] } :: q ∧ h.sm.py = h.py := by
  cases h <;> first | exact ⟨rfl, rfl⟩ | cases e
theorem hd_ne {H : Hp} {v : V} {h : Hd} (d : Dp K H v h.py) : v ≠ .non := by
  obtain ⟨p, xs, rfl, _⟩ := hd_head d
  intro z; cases z
def sp_put : Sp := fun vs H Q _ => ∃ (H0 : Hp) (r L : Addr) (as : List (Addr × Addr)) (C : Pt) (q : List Pt) (v : V), vs = [.ref r, v] ∧ Rdr K H0 H r L as (C :: q) ∧ szS (C :: q) ≤ 500 ∧
  ((v = .non ∧ ∀ H', Same H0 H' → Q (.bl false) H') ∨ ∃ hd : Hd, Dp K H v hd.py ∧ ∀ H' as', Rdr K H0 H' r L as' (push hd C q) → Q (.bl true) H')
theorem ok_put (T : Txt w K mg) : Mt P w K mg base 3 ("ProgramReader", some "put") ["self", "statement"] (sp_put (K := K)) := by
  obtain ⟨_, bI_Part, GI_Part⟩ := ok_Pinit (P := P) (base := base) T
  obtain ⟨fd, F⟩ := T.d_ProgramReader_put
  refine ⟨fd, (FunD.bindsN F (fun _ _ _ _ _ _ us hl => match us, hl with | [_, _], _ => rfl)), F.ok sc_ProgramReader_put (fun vs H Q E h => ?len) (fun cdv A outer s H vs Q E hr h => ?run)⟩
  case len =>
    obtain ⟨H0, r, L, as, C, q, v, rfl, _⟩ := h
    rfl
  refine ⟨_, PSs.nox (pss_cons (ps_if (pt_cmpR op_isN1 (pv 1) pe_non (nomark _)) (pss_one (ps_ret pe_bl)) pss_nil)
      (pss_cons (ps_if (pt_cmpR op_in_seq (pe_ix ix_tup (pv 1) pe_int (fun _ _ => rfl)) (pe_tup (pa_cons pe_str (pa_cons pe_str (pa_cons pe_str (pa_cons pe_str pa_nil))))) (by rfl)) (pss_one (ps_expr (pe_bm PySem.F.plainAttrs_list PySem.F.slot_list_append PySem.F.type_list_append mt_append (pe_fld (pv 0) rfl) (pa_cons (pe_make T.mk_Part GI_Part (hr.mono (by omega)) rfl T.g_Part bI_Part .nil pass0 (pa_cons (pe_ix ix_tup (pv 1) pe_int (fun _ _ => rfl)) (pa_cons (pv 1) pa_nil))) pa_nil)))) (pss_one (ps_expr (pe_bm PySem.F.plainAttrs_list PySem.F.slot_list_append PySem.F.type_list_append mt_append (pe_fld (pe_ix ix_list (pe_fld (pv 0) rfl) (pe_un un_neg pe_int) (fun _ _ => rfl)) rfl) (pa_cons (pv 1) pa_nil)))))
      (pss_one (ps_ret pe_bl)))), ?_⟩
  obtain ⟨H0, r, L, as, C, q, v, rfl, hR, hsz, h⟩ := h
  obtain ⟨dr, er⟩ := hR.obj
  walk_at "st"
  rcases h with ⟨rfl, k⟩ | ⟨hd, dv, k⟩
  · refine i_ite rfl ?_
    walk_at "st"
    exact k _ hR.same
  · refine i_itf (decide_eq_false (hd_ne dv)) ?_
    obtain ⟨p, xs, rfl, hp⟩ := hd_head dv
    walk_at "st"
    refine i_ix0 hp ?_
    walk_at "st"
    refine i_new (by simp) fun t ht => ?_
    have st := Same.new (o := .tup [.str "if", .str "repeat", .str "we", .str "they"]) ht
    refine i_isT (.inl (.inl upd_same)) rfl rfl ?_
    walk_at "st"
    rw [hd_opens]
    have hR1 := hR.mono st
    have dv1 := dp_mono st dv
    have hp1 := Same.tup st hp
    generalize upd H t (.tup [.str "if", .str "repeat", .str "we", .str "they"]) = G1 at hR1 dv1 hp1 ⊢
    obtain ⟨dr1, er1⟩ := hR1.obj
    have hpl := hR1.pts.len
    have hsl := szS_len (C :: q)
    cases hk : hd.kd with
    | some kd =>
      obtain ⟨e1, e2, e3⟩ := push_kd (C := C) (q := q) hk
      refine i_ite rfl ?_
      walk_at "st"
      refine i_fld1 er1 T.cls_ProgramReader T.na_ProgramReader_blocks_open rfl ?_
      refine i_tyL (.inl (.inl hR1.lst)) ?_
      walk_at "st"
      refine i_ix0 hp1 ?_
      walk_at "st"
      intro x dx hx hdx ne
      have hxd : upd G1 dx (.own x) x = none := by rw [upd_ne ne.symm]; exact hx
      have s2 : Same G1 (upd (upd G1 dx (.own x)) x (.ins (He.ga K "Part") dx [])) := Same.grow (Same.new hdx) hxd
      refine ⟨x, dx, _, _, rfl, upd_same, fun G2 R hRn hx' hR' keep => ⟨rfl, ?_⟩⟩
      have s3 : Same G1 G2 := fun b o e => keep b o (fun z => by subst z; rw [hx] at e; cases e) (s2 _ _ e)
      have hR2 := hR1.mono s3
      have hRn1 : G1 R = none := s2.free hRn
      have f1 := hR1.fresh hx
      have f2 := hR1.fresh hRn1
      walk_at "st"
      refine i_append hR2.lst (by rw [pref_len]; omega) ?_
      walk_at "st"
      refine k _ ((x, R) :: as) ?_
      rw [e1]
      refine hR2.push (b := (x, R)) (t := Pt.new kd) (new_pt (dx := dx) (hv := .ref p) ?_ hR' ?_) (hR1.same.free hx) (hR1.same.free hRn1) f1.1 f2.2.1 f2.2.2.1
      · rw [e2]; exact hx'
      · rw [e3]; exact dp_mono s3 dv1
    | none =>
      obtain ⟨e1, e2⟩ := push_sm (C := C) (q := q) hk
      refine i_itf rfl ?_
      match as, hR1, hpl with
      | [], hR1, hpl => simp at hpl
      | b :: as2, hR1, hpl =>
        have hl := hR1.lst
        rw [pref_cons] at hl
        obtain ⟨⟨dxp, hvp, ep, dp⟩, ⟨xr, exr, dxr⟩⟩ := hR1.pts.1
        have hxr : xr.length = C.rows.length := by rw [dpa_len dxr, pys_eq, List.length_map]
        have hcr : C.rows.length ≤ 500 := by rw [szS_cons] at hsz; omega
        walk_at "st"
        refine i_fld1 er1 T.cls_ProgramReader T.na_ProgramReader_blocks_open rfl ?_
        walk_at "st"
        refine i_last (.inl (.inl hl)) ?_
        refine i_fld1 ep T.cls_Part T.na_Part_rows rfl ?_
        refine i_tyL (.inl (.inl exr)) ?_
        walk_at "st"
        refine i_append exr (by omega) ?_
        walk_at "st"
        refine k _ (b :: as2) ?_
        rw [e1]
        have tk : TK G1 (upd G1 b.2 (.lst (xr ++ [.ref p]))) := TK.lst exr
        refine hR1.rows (rows' := C.rows ++ [hd.sm]) ?_
        rw [pys_app]
        refine dpa_app (dpa_tk tk (noL_sms _) dxr) (.cons (dp_tk tk (noL_sm _) ?_) .nil)
        rw [e2]; exact dv1
end
end K04
/-! text E4 -/
set_option Elab.async false
set_option linter.all false
set_option maxRecDepth 100000
set_option maxHeartbeats 4000000
namespace K04
open PySem PySem.Spec PyProof.Rows L2 TL
local macro_rules
  | `(tactic| walk_at "st") => `(tactic| repeat (with_reducible first
    | refine i_seq ?_ | refine i_ret ?_ | refine i_asg ?_ | refine i_name ?_ | refine i_ifs ?_ | refine i_test ?_ | refine i_B ?_ | refine i_bl ?_ | refine i_var (by with_unfolding_all rfl) ?_ | refine i_c ?_
    | refine i_op ?_ | refine i_un ?_ | refine i_cb ?_ | refine i_cons ?_ | refine i_nil ?_ | refine i_call ?_ | refine i_and ?_ | refine i_or ?_ | refine i_not ?_ | refine i_andV ?_ | refine i_orV ?_ | refine i_notV ?_ | refine i_if ?_
    | refine i_tup ?_ | refine i_lst ?_ | refine i_sl ?_ | refine i_nopart ?_ | refine i_part ?_ | refine i_int ?_ | refine i_chain ?_ | refine i_I0 ?_ | refine i_par ?_ | refine i_two ?_ | refine i_bm ?_ | refine i_bm0 ?_ | refine i_m1 ?_ | refine i_tyS ?_ | refine i_str ?_
    | refine i_for ?_ | refine i_iTup ?_ | refine i_iList ?_ | refine i_iStr ?_ | refine i_iRng1 ?_ | refine i_iRng2 ?_ | refine i_iEnum ?_ | refine i_lc ?_ | refine i_yes ?_ | refine i_revL ?_ | refine i_fld ?_ | refine i_sfld ?_ | refine i_meth ?_ | refine i_make ?_ | refine i_isN ?_ | refine i_neg ?_ | refine i_notN ?_ | refine i_intB ?_ | refine i_intI ?_
    | refine i_next ?_ | refine i_drop ?_ | refine i_retN ?_ | refine i_gsub ?_ | refine i_ipI ?_ | refine i_aug (by with_unfolding_all rfl) ?_
    | refine i_eq (by with_unfolding_all rfl) ?_ | refine i_ne (by with_unfolding_all rfl) ?_))
abbrev N_ProgramReader_read : List Str := ["self", "line", "rest", "depth", "odd_space", "deepest", "lacks", "kinds", "part", "kind"]
theorem sc_ProgramReader_read : FnScope N_ProgramReader_read ["self", "line"] (defScope s_ProgramReader_read) := ⟨rfl, rfl, rfl, by decide +kernel, rfl, by decide +kernel, by decide +kernel⟩
section
variable {P : Program} {w : World} {K : PySem.W.Frag} {mg : Str → Option Value} {base : Heap}
theorem kd_sh (k : Kd) : SeqAt.shaped (.list [.str k.str]) = true := by
  cases k with
  | cho h => cases h <;> decide +kernel
  | prog => decide +kernel
  | ifk t => (show SeqAt.shaped (.list [.str "if"]) = true); decide +kernel
  | rep n => (show SeqAt.shaped (.list [.str "repeat"]) = true); decide +kernel
  | els => decide +kernel
  | orr => decide +kernel
theorem sh0 : SeqAt.shaped (.list []) = true ∧ SeqAt.shaped (.list [.str "we"]) = true ∧ SeqAt.shaped (.list [.str "they"]) = true ∧ SeqAt.shaped (.list [.str "if"]) = true := by decide +kernel
theorem eqs1 (x y : Str) : PyData.eqv (.list [.str x]) (.list [.str y]) = decide (V.str x = .str y) := by
  have : PyData.eqv (.list [.str x]) (.list [.str y]) = (x == y) := by simp [PyData.eqv, PyData.eqvAll]
  rw [this, Bool.eq_iff_iff, beq_iff_eq, decide_eq_true_eq]
  exact ⟨fun h => by rw [h], fun h => V.str.inj h⟩
theorem eqs0 (y : Str) : PyData.eqv (.list []) (.list [.str y]) = false := by
  simp [PyData.eqv, PyData.eqvAll]
theorem kd_we (k : Kd) : (decide (V.str k.str = .str "we") || decide (V.str k.str = .str "they")) = k.isHand := by
  cases k with
  | cho h => cases h <;> decide +kernel
  | prog => decide +kernel
  | ifk t => (show (decide (V.str "if" = _) || decide (V.str "if" = _)) = false); decide +kernel
  | rep n => (show (decide (V.str "repeat" = _) || decide (V.str "repeat" = _)) = false); decide +kernel
  | els => decide +kernel
  | orr => decide +kernel
theorem kd_if (k : Kd) : decide (V.str k.str = .str "if") = k.isIf := by
  cases k with
  | cho h => cases h <;> decide +kernel
  | prog => decide +kernel
  | ifk t => (show decide (V.str "if" = _) = true); decide +kernel
  | rep n => (show decide (V.str "repeat" = _) = false); decide +kernel
  | els => decide +kernel
  | orr => decide +kernel
theorem kd_else (k : Kd) : decide (V.str k.str = .str "else") = k.isElse := by
  cases k with
  | cho h => cases h <;> decide +kernel
  | prog => decide +kernel
  | ifk t => (show decide (V.str "if" = _) = false); decide +kernel
  | rep n => (show decide (V.str "repeat" = _) = false); decide +kernel
  | els => decide +kernel
  | orr => decide +kernel
/-! all that stands beside the reader, kept -/
def less (H : Hp) (r L : Addr) (as : List (Addr × Addr)) : Hp := fun a => if a = r ∨ a = L ∨ a ∈ as.map (·.1) ∨ a ∈ as.map (·.2) then none else H a
theorem less_in {H : Hp} {r L a : Addr} {as : List (Addr × Addr)} (h : a = r ∨ a = L ∨ a ∈ as.map (·.1) ∨ a ∈ as.map (·.2)) : less H r L as a = none := if_pos h
theorem less_out {H : Hp} {r L a : Addr} {as : List (Addr × Addr)} (h : ¬ (a = r ∨ a = L ∨ a ∈ as.map (·.1) ∨ a ∈ as.map (·.2))) : less H r L as a = H a := if_neg h
theorem less_le {H : Hp} {r L : Addr} {as : List (Addr × Addr)} : Same (less H r L as) H := fun b o e => by
  by_cases h : b = r ∨ b = L ∨ b ∈ as.map (·.1) ∨ b ∈ as.map (·.2)
  · rw [less_in h] at e; cases e
  · rw [less_out h] at e; exact e
theorem Rdr.wide {H0 H : Hp} {r L : Addr} {as : List (Addr × Addr)} {S : List Pt} (h : Rdr K H0 H r L as S) :
    ∃ H1, Rdr K H1 H r L as S ∧ Same H0 H1 ∧ ∀ a o, H a = some o → a ≠ r → a ≠ L → a ∉ as.map (·.1) → a ∉ as.map (·.2) → H1 a = some o := by
  refine ⟨less H r L as, ⟨less_le, h.obj, h.lst, h.pts, h.ndp, h.ndr, less_in (.inl rfl), less_in (.inr (.inl rfl)), fun b hb => ⟨less_in (.inr (.inr (.inl (List.mem_map_of_mem hb)))), less_in (.inr (.inr (.inr (List.mem_map_of_mem hb))))⟩⟩, ?_, ?_⟩
  · intro b o e
    have nb : ¬ (b = r ∨ b = L ∨ b ∈ as.map (·.1) ∨ b ∈ as.map (·.2)) := by
      rintro (rfl | rfl | z | z)
      · rw [h.nr] at e; cases e
      · rw [h.nl] at e; cases e
      · obtain ⟨c, hc, rfl⟩ := List.mem_map.mp z
        rw [(h.na c hc).1] at e; cases e
      · obtain ⟨c, hc, rfl⟩ := List.mem_map.mp z
        rw [(h.na c hc).2] at e; cases e
    rw [less_out nb]
    exact h.same _ _ e
  · intro a o e n1 n2 n3 n4
    rw [less_out (by rintro (z | z | z | z) <;> contradiction)]
    exact e
theorem i_common {c : Bool} {A B : Prop} (h : c = true → B → A) (k : B) : if c = true then A else B := by
  cases c with
  | true => exact h rfl k
  | false => exact k
theorem i_common1 {c : Bool} {A B : Prop} (h : c = false → A → B) (k : A) : if c = true then A else B := by
  cases c with
  | true => exact k
  | false => exact h rfl k
theorem cut_from (xs : List V) (k : Nat) : cutV xs (some (k : Int)) none = xs.drop k := by
  unfold cutV
  rw [HT.sIx_none, HT.sIx_nat, drop_min, List.take_of_length_le]
  rw [List.length_drop]; omega
theorem cut_one (xs : List V) : cutV xs none (some 1) = xs.take 1 := by
  unfold cutV
  rw [HT.sIx_none, show (some (1 : Int)) = some ((1 : Nat) : Int) from rfl, HT.sIx_nat, List.drop_zero, Nat.sub_zero]
  cases xs with
  | nil => rfl
  | cons a b => simp
theorem endK_map {m d : Nat} {S : List Pt} (h : S.length = d + 1 + m) : endK m S = (S.reverse.drop (d + 1)).map (·.kd) := by
  unfold endK
  rw [← List.map_reverse, List.reverse_take, h, show d + 1 + m - m = d + 1 by omega]
theorem Rdr.narrow {H0 H1 H : Hp} {r L : Addr} {as : List (Addr × Addr)} {S : List Pt} (h : Rdr K H1 H r L as S) (s : Same H0 H1) : Rdr K H0 H r L as S :=
  ⟨Same.trans s h.same, h.obj, h.lst, h.pts, h.ndp, h.ndr, s.free h.nr, s.free h.nl, fun b hb => ⟨s.free (h.na b hb).1, s.free (h.na b hb).2⟩⟩
def hd1 (f : Kd → Bool) (ks : List Kd) : Bool := (ks.head?.map f).getD false
theorem i_eqK {H : Hp} {Q : VK} {p q : Addr} {ks : List Kd} {y : Str} (h : H p = some (.lst ((ks.take 1).map fun k => V.str k.str))) (h2 : H q = some (.lst [.str y])) (sh : SeqAt.shaped (.list [.str y]) = true)
    (k : Q (.bl (hd1 (fun k => decide (V.str k.str = .str y)) ks)) H) : rEqD K (.ref p) (.ref q) H Q := by
  cases ks with
  | nil => exact ⟨.list [], .list [.str y], .lst (.inl (.inl h)) .nil, .lst (.inl (.inl h2)) (.cons (.str _) .nil), sh0.1, sh, by rw [eqs0]; exact k⟩
  | cons a r => exact ⟨.list [.str a.str], .list [.str y], .lst (.inl (.inl h)) (.cons (.str _) .nil), .lst (.inl (.inl h2)) (.cons (.str _) .nil), kd_sh a, sh, by rw [eqs1]; exact k⟩
theorem kinds_or {σ : L2.St} {H : Hp} {Q : VK} {D : Addr} {ks : List Kd} (hσ : σ[7]? = some (some (.ref D))) (hD : H D = some (.lst (ks.map fun k => V.str k.str))) (k : ∀ H', Same H H' → Q (.bl (hd1 Kd.isHand ks)) H') :
    tOrV (tOp (rEqD K) (tSl (rSlL K) (tVar 7) tNoPart (tPart (tC (.int 1)))) (tLst (tCons (tC (.str "we")) tNil))) (tOp (rEqD K) (tSl (rSlL K) (tVar 7) tNoPart (tPart (tC (.int 1)))) (tLst (tCons (tC (.str "they")) tNil))) σ H Q := by
  refine ⟨_, hσ, _, rfl, ?_⟩
  refine i_slL (.inl (.inl hD)) fun p8 hp8 => ?_
  rw [cut_one, ← List.map_take]
  refine ⟨by rw [sizeLine_eq]; simp, fun p9 hp9 => ?_⟩
  have s8 := Same.new (o := .lst ((ks.take 1).map fun k => V.str k.str)) hp8
  have s9 := Same.grow (o := .lst [.str "we"]) s8 hp9
  refine i_eqK ((Same.new hp9) _ _ upd_same) upd_same sh0.2.1 ⟨_, rfl, ?_⟩
  have e : hd1 Kd.isHand ks = (hd1 (fun k => decide (V.str k.str = .str "we")) ks || hd1 (fun k => decide (V.str k.str = .str "they")) ks) := by
    cases ks with
    | nil => rfl
    | cons a r => exact (kd_we a).symm
  cases z : hd1 (fun k => decide (V.str k.str = .str "we")) ks with
  | true =>
    refine i_ite rfl ?_
    have := k _ s9
    rw [e, z] at this
    exact this
  | false =>
    refine i_itf rfl ?_
    refine ⟨_, hσ, _, rfl, ?_⟩
    refine i_slL (.inl (.inl (s9 _ _ hD))) fun pa hpa => ?_
    rw [cut_one, ← List.map_take]
    refine ⟨by rw [sizeLine_eq]; simp, fun pb hpb => ?_⟩
    have sa := Same.grow (o := .lst ((ks.take 1).map fun k => V.str k.str)) s9 hpa
    have sb := Same.grow (o := .lst [.str "they"]) sa hpb
    refine i_eqK ((Same.new hpb) _ _ upd_same) upd_same sh0.2.2.1 ?_
    have := k _ sb
    rw [e, z] at this
    exact this
def sp_read : Sp := fun vs H Q _ => ∃ (H0 : Hp) (r L : Addr) (as : List (Addr × Addr)) (S : List Pt) (l : List Nat), vs = [.ref r, .str (mk l)] ∧ Rdr K H0 H r L as S ∧ Wf S ∧ szS S ≤ 400 ∧ l.length ≤ 90000 ∧
  (rd S l = none → ∀ H', Same H0 H' → Q (.bl false) H') ∧ ∀ S', rd S l = some S' → ∀ H' as', Rdr K H0 H' r L as' S' → Q (.bl true) H'
theorem lst_le (l : List Nat) : (lst l).length ≤ l.length := (List.dropWhile_sublist _).length_le
theorem bl_eq (a b : Bool) : (!decide (V.bl a = V.bl b)) = (a != b) := by cases a <;> cases b <;> rfl
theorem wcs : cs "or" ≠ cs "else" ∧ cs "or" ≠ cs "pass" ∧ cs "else" ≠ cs "pass" := by decide +kernel
theorem ok_read (T : Txt w K mg) : Mt P w K mg base 48 ("ProgramReader", some "read") ["self", "line"] (sp_read (K := K)) := by
  obtain ⟨_, bI_Part, GI_Part⟩ := ok_Pinit (P := P) (base := base) T
  obtain ⟨_, b_Part_lacks_line, G_Part_lacks_line⟩ := ok_Placks (P := P) (base := base) T
  obtain ⟨_, b_ProgramReader_come_to, G_ProgramReader_come_to⟩ := ok_come (P := P) (base := base) T
  obtain ⟨_, b_ProgramReader_put, G_ProgramReader_put⟩ := ok_put (P := P) (base := base) T
  have c_statement_of := ok_stof (P := P) (base := base) T
  obtain ⟨fd, F⟩ := T.d_ProgramReader_read
  refine ⟨fd, (FunD.bindsN F (fun _ _ _ _ _ _ us hl => match us, hl with | [_, _], _ => rfl)), F.ok sc_ProgramReader_read (fun vs H Q E h => ?len) (fun cdv A outer s H vs Q E hr h => ?run)⟩
  case len =>
    obtain ⟨H0, r, L, as, S, l, rfl, _⟩ := h
    rfl
  refine ⟨_, PSs.nox (pss_cons (ps_set (i := 2) sc_ProgramReader_read.nd rfl (by first | exact Or.inl rfl | exact Or.inr rfl) (pe_bm PySem.F.plainAttrs_str PySem.F.slot_str_lstrip PySem.F.type_str_lstrip (show MtR _ _ rLstripC from mt_lstripChars) (pv 1) (pa_cons pe_str pa_nil)))
      (pss_cons (ps_asg (pe_callB call_divmod (by rfl) T.f_divmod (by decide +kernel) (pa_cons (pe_op op_sub (pe_callB call_lenX (by rfl) T.f_len (by decide +kernel) (pa_cons (pv 1) pa_nil)) (pe_callB call_lenX (by rfl) T.f_len (by decide +kernel) (pa_cons (pv 2) pa_nil))) (pa_cons pe_int pa_nil))) (pg_tup rfl (pgs_cons (pg_name (i := 3) sc_ProgramReader_read.nd rfl (by first | exact Or.inl rfl | exact Or.inr rfl)) (pgs_cons (pg_name (i := 4) sc_ProgramReader_read.nd rfl (by first | exact Or.inl rfl | exact Or.inr rfl)) pgs_nil))))
      (pss_cons (ps_par (i := 5) (j := 6) (by rfl) sc_ProgramReader_read.nd rfl rfl (by decide) rfl rfl (pa_cons (pe_op op_sub (pe_callB call_lenX (by rfl) T.f_len (by decide +kernel) (pa_cons (pe_fld (pv 0) rfl) pa_nil)) pe_int) (pa_cons (pe_meth0 (pe_ix ix_list (pe_fld (pv 0) rfl) (pe_un un_neg pe_int) (fun _ _ => rfl)) T.cls_Part T.m_Part_lacks_line G_Part_lacks_line (hr.mono (by omega)) b_Part_lacks_line .nil pass0) pa_nil)) (by rfl))
      (pss_cons (ps_if (PW.pt (pw_or (pt_cmpR op_eq (pv 4) pe_int (nomark _)) (pw_or (pt_cmpR op_gt (pv 3) (pv 5) (nomark _)) (pw_or1 (PW.pt (pw_and (pt_val (pv 6)) (pw_and1 (pt_cmpR op_ne (pv 3) (pv 5) (nomark _))))))))) (pss_one (ps_ret pe_bl)) pss_nil)
      (pss_cons (ps_setLc (i := 7) (own := [("part", 8)]) rfl sc_ProgramReader_read.nd rfl rfl (sw_true rfl rfl rfl (by decide +kernel)) (pi_list (pe_slice sl_list (pe_fld (pv 0) rfl) (po_some (pe_op op_add (pv 3) pe_int)) po_none)) (blkOk_by (own := [("part", 8)]) (N := N_ProgramReader_read) (sc := (defScope s_ProgramReader_read)) (by decide +kernel)) (fun _ _ _ _ _ => pg_name (i := 8) sc_ProgramReader_read.nd rfl (Or.inl rfl)) (fun _ _ _ _ _ => pts_nil) (fun _ _ _ _ _ => (show PE _ _ (tFld K _ _) from pe_fld (pv 8) rfl)))
      (pss_cons (ps_if (pt_cmpR (op_neN hr.units0) (pe_lc (own := [("kind", 9)]) rfl sc_ProgramReader_read.nd (pi_list (pe_slice sl_list (pv 7) (po_some pe_int) po_none)) (blkOk_by (own := [("kind", 9)]) (N := N_ProgramReader_read) (sc := (defScope s_ProgramReader_read)) (by decide +kernel)) (fun _ _ _ _ _ => pg_name (i := 9) sc_ProgramReader_read.nd rfl (Or.inl rfl)) (fun _ _ _ _ _ => (pts_one (pt_cmpR (show OpR _ _ (rIn K false) from op_in_seq) (pv 9) (pe_glob (v := .ref _) rfl T.g_HANDS rfl) (by rfl)))) (fun _ _ _ _ _ => (pv 9))) (pe_lst pa_nil) (nomark _)) (pss_one (ps_ret pe_bl)) pss_nil)
      (pss_cons (ps_if (pt_cmpR op_ne (pe_or (pe_cmpR (op_eqD hr.units) (pe_slice sl_list (pv 7) po_none (po_some pe_int)) (pe_lst (pa_cons pe_str pa_nil)) (nomark _)) (pe_one (pe_cmpR (op_eqD hr.units) (pe_slice sl_list (pv 7) po_none (po_some pe_int)) (pe_lst (pa_cons pe_str pa_nil)) (nomark _)))) (pe_cmpR op_eq (pv 2) pe_str (nomark _)) (nomark _)) (pss_one (ps_ret pe_bl)) pss_nil)
      (pss_cons (ps_expr (pe_meth (pv 0) T.cls_ProgramReader T.m_ProgramReader_come_to G_ProgramReader_come_to (hr.mono (by omega)) b_ProgramReader_come_to .nil pass0 (pa_cons (pv 3) pa_nil)))
      (pss_cons (ps_if (PW.pt (pw_or (pt_cmpR op_eq (pv 2) pe_str (nomark _)) (pw_or1 (PW.pt (pw_and (pt_cmpR op_eq (pv 2) pe_str (nomark _)) (pw_and1 (pt_cmpR (op_eqD hr.units) (pe_slice sl_list (pv 7) po_none (po_some pe_int)) (pe_lst (pa_cons pe_str pa_nil)) (nomark _)))))))) (pss_cons (ps_expr (pe_bm PySem.F.plainAttrs_list PySem.F.slot_list_append PySem.F.type_list_append mt_append (pe_fld (pv 0) rfl) (pa_cons (pe_make T.mk_Part GI_Part (hr.mono (by omega)) rfl T.g_Part bI_Part .nil pass0 (pa_cons (pv 2) (pa_cons (pe_tup pa_nil) pa_nil))) pa_nil)))
      (pss_one (ps_ret pe_bl))) pss_nil)
      (pss_cons (ps_if (pt_cmpR op_eq (pv 2) pe_str (nomark _)) (pss_cons (ps_fld (pe_ix ix_list (pe_fld (pv 0) rfl) (pe_un un_neg pe_int) (fun _ _ => rfl)) pe_bl rfl)
      (pss_one (ps_ret (pe_and (pv 6) (pe_one (pe_cmpR op_ne (pe_fld (pe_ix ix_list (pe_fld (pv 0) rfl) (pe_un un_neg pe_int) (fun _ _ => rfl)) rfl) pe_str (nomark _))))))) pss_nil)
      (pss_one (ps_ret (pe_and (pe_not (pe_fld (pe_ix ix_list (pe_fld (pv 0) rfl) (pe_un un_neg pe_int) (fun _ _ => rfl)) rfl)) (pe_one (pe_meth (pv 0) T.cls_ProgramReader T.m_ProgramReader_put G_ProgramReader_put (hr.mono (by omega)) b_ProgramReader_put .nil pass0 (pa_cons (pcl c_statement_of (hr.mono (by omega)) (pa_cons (pv 2) pa_nil)) pa_nil)))))))))))))))), ?_⟩
  obtain ⟨H0, r, L, as, S, l, rfl, hR, hw, hsz, hl, kn, kt⟩ := h
  have hll := lst_le l
  match S, as, hR, hw, hsz, kn, kt with
  | [], _, _, hw, _, _, _ => exact hw.elim
  | _ :: _, [], hR, _, _, _, _ => exact hR.pts.elim
  | t :: S2, b :: as2, hR, hw, hsz, kn, kt =>
  obtain ⟨dr, er⟩ := hR.obj
  have hLl := hR.lst
  have hpl := hR.pts.len
  have hsl := szS_len (t :: S2)
  obtain ⟨dxp, hvp, ep, dp⟩ := hR.pts.1.obj
  walk_at "st"
  refine i_lstrip hl ?_
  walk_at "st"
  refine i_lenS (by rw [len_mk]; omega) ?_
  walk_at "st"
  refine i_lenS (by rw [len_mk]; omega) ?_
  walk_at "st"
  rw [len_mk, len_mk]
  refine ⟨_, _, rfl, ⟨by omega, by omega⟩, fun p1 hp1 => ?_⟩
  rw [show ((l.length : Int) - ((lst l).length : Int)) / 2 = ((ahead l / 2 : Nat) : Int) by unfold ahead; omega, show ((l.length : Int) - ((lst l).length : Int)) % 2 = ((ahead l % 2 : Nat) : Int) by unfold ahead; omega]
  refine i_gtup (.inl (.inl upd_same)) rfl ?_
  refine i_gcons ?_
  walk_at "st"
  refine i_gcons ?_
  walk_at "st"
  refine i_gnil ?_
  walk_at "st"
  have s1 := Same.new (o := .tup [.int ((ahead l / 2 : Nat) : Int), .int ((ahead l % 2 : Nat) : Int)]) hp1
  have hR1 := hR.mono s1
  have er1 := s1 _ _ er
  have ep1 := s1 _ _ ep
  have hL1 := hR1.lst
  generalize upd H p1 (.tup [.int ((ahead l / 2 : Nat) : Int), .int ((ahead l % 2 : Nat) : Int)]) = G1 at hR1 er1 ep1 hL1 ⊢
  refine i_fld1 er1 T.cls_ProgramReader T.na_ProgramReader_blocks_open rfl ?_
  walk_at "st"
  refine i_lenL (.inl (.inl hL1)) ?_
  walk_at "st"
  refine i_fld1 er1 T.cls_ProgramReader T.na_ProgramReader_blocks_open rfl ?_
  walk_at "st"
  have hL1' := hL1
  rw [pref_cons] at hL1'
  refine i_last (.inl (.inl hL1')) ?_
  refine ⟨b.1, dxp, _, rfl, ep1, rfl, ?_⟩
  walk_at "st"
  refine ⟨b.1, b.2, t, rfl, hR1.pts.1, fun G2 s2 => ?_⟩
  walk_at "st"
  have hR2 := hR1.mono s2
  have er2 := s2 _ _ er1
  rw [pref_len, hpl]
  have hrd : rd (t :: S2) l = if ahead l % 2 = 1 ∨ S2.length < ahead l / 2 ∨ (t.lacks = true ∧ ahead l / 2 ≠ S2.length) then none else rdGo (lst l) t.lacks (S2.length - ahead l / 2) (t :: S2) := rfl
  generalize hd : ahead l / 2 = d at hrd ⊢
  have fail : ahead l % 2 = 1 ∨ S2.length < d ∨ (t.lacks = true ∧ d ≠ S2.length) → ∀ H', Same H0 H' → Q (.bl false) H' := fun z => kn (by rw [hrd, if_pos z])
  by_cases c1 : ahead l % 2 = 1
  · refine i_ite (decide_eq_true (by rw [c1]; rfl)) ?_
    refine i_ite rfl ?_
    walk_at "st"
    exact fail (.inl c1) _ hR2.same
  refine i_itf (decide_eq_false (fun z => c1 (by have := V.int.inj z; omega))) ?_
  walk_at "st"
  by_cases c2 : S2.length < d
  · refine i_ite (decide_eq_true (by simp only [List.length_cons]; omega)) ?_
    refine i_ite rfl ?_
    walk_at "st"
    exact fail (.inr (.inl c2)) _ hR2.same
  refine i_itf (decide_eq_false (by simp only [List.length_cons]; omega)) ?_
  walk_at "st"
  by_cases c3 : t.lacks = true ∧ d ≠ S2.length
  · refine i_ite c3.1 ?_
    walk_at "st"
    refine i_ite (by rw [decide_eq_false (fun z => c3.2 (by have := V.int.inj z; simp only [List.length_cons] at this; omega))]; rfl) ?_
    walk_at "st"
    exact fail (.inr (.inr c3)) _ hR2.same
  refine i_common (fun hc kB => ?_) ?_
  · walk_at "st"
    have e3 : (!decide (V.int (d : Int) = V.int (((t :: S2).length : Int) - 1))) = false := by
      have : d = S2.length := Classical.byContradiction fun z => c3 ⟨hc, z⟩
      rw [decide_eq_true (by rw [this]; simp only [List.length_cons]; congr 1; omega)]; rfl
    rw [e3]
    exact kB
  refine i_itf rfl ?_
  walk_at "st"
  rw [if_neg (by rintro (z | z | z) <;> contradiction)] at hrd
  obtain ⟨m, hm⟩ : ∃ m, S2.length = d + m := ⟨S2.length - d, by omega⟩
  rw [show S2.length - d = m by omega, rdGo_flat _ _ (by simp only [List.length_cons]; omega)] at hrd
  have hlm : (t :: S2).length = d + 1 + m := by simp only [List.length_cons]; omega
  refine i_fld1 er2 T.cls_ProgramReader T.na_ProgramReader_blocks_open rfl ?_
  walk_at "st"
  refine i_slL (.inl (.inl hR2.lst)) fun p3 hp3 => ?_
  rw [show ((d : Int) + 1) = ((d + 1 : Nat) : Int) by omega, cut_from]
  have s3 := Same.new (o := .lst ((pref (b :: as2)).drop (d + 1))) hp3
  have g3 : upd G2 p3 (.lst ((pref (b :: as2)).drop (d + 1))) p3 = some (.lst ((pref (b :: as2)).drop (d + 1))) := upd_same
  have hR3 := hR2.mono s3
  generalize upd G2 p3 (.lst ((pref (b :: as2)).drop (d + 1))) = G3 at s3 g3 hR3 ⊢
  walk_at "st"
  refine ⟨p3, rfl, ⟨_, .inl (.inl g3)⟩, fun D hD => ?_⟩
  have hxl : ((pref (b :: as2)).drop (d + 1)).length = m := by rw [List.length_drop, pref_len, hpl]; omega
  have hek := endK_map (S := t :: S2) hlm
  have hekl : (endK m (t :: S2)).length = m := endK_len (by omega)
  have hm4 : m ≤ 400 := by omega
  refine lc_it (walk_list (xs := (pref (b :: as2)).drop (d + 1))) (fun j G => Same G3 G ∧ G D = some (.lst (((endK m (t :: S2)).take j).map fun k => V.str k.str))) ⟨Same.new hD, by rw [upd_same]; rfl⟩ (fun j G _ h => .inl (.inl (h.1 _ _ g3))) ?_ ?_
  · rintro j x G G' hj ⟨sG, gD⟩ ⟨rfl, hx⟩
    rw [List.getElem?_drop] at hx
    obtain ⟨c, tc, rfl, htc, hpc⟩ := pref_get (hR3.mono sG).pts hx
    obtain ⟨⟨dxc, hvc, ec, dc⟩, _⟩ := hpc
    have hke : (endK m (t :: S2))[j]? = some tc.kd := by rw [hek, List.getElem?_map, List.getElem?_drop, htc]; rfl
    walk_at "st"
    refine ⟨rfl, ?_⟩
    walk_at "st"
    refine i_ite rfl ?_
    walk_at "st"
    refine i_fld1 ec T.cls_Part T.na_Part_kind rfl ?_
    refine ⟨_, gD, szl ?_, Same.mut sG hD, ?_⟩
    · rw [List.length_map, List.length_take]; omega
    · rw [upd_same, take_next hke, List.map_append]; rfl
  rintro G4 ⟨s4, g4⟩
  rw [hxl, List.take_of_length_le (by omega)] at g4
  have hR4 := hR3.mono s4
  walk_at "st"
  -- the kinds that end
  generalize hks : endK m (t :: S2) = ks at hrd g4
  refine i_slL (.inl (.inl g4)) fun p5 hp5 => ?_
  rw [show (some (1 : Int)) = some ((1 : Nat) : Int) from rfl, cut_from, ← List.map_drop]
  have s5 := Same.new (o := .lst ((ks.drop 1).map fun k => V.str k.str)) hp5
  have g5 : upd G4 p5 (.lst ((ks.drop 1).map fun k => V.str k.str)) p5 = some (.lst ((ks.drop 1).map fun k => V.str k.str)) := upd_same
  have g5D := s5 _ _ g4
  have hR5 := hR4.mono s5
  generalize upd G4 p5 (.lst ((ks.drop 1).map fun k => V.str k.str)) = G5 at s5 g5 g5D hR5 ⊢
  have hkl : ks.length ≤ 400 := by rw [← hks, hekl]; exact hm4
  refine ⟨p5, rfl, ⟨_, .inl (.inl g5)⟩, fun D6 hD6 => ?_⟩
  refine lc_it (walk_list (xs := (ks.drop 1).map fun k => V.str k.str)) (fun j G => Same G5 G ∧ ∃ acc, G D6 = some (.lst acc) ∧ acc.length ≤ j ∧ acc.isEmpty = !(((ks.drop 1).take j).any Kd.isHand)) ⟨Same.new hD6, [], upd_same, Nat.le_refl _, rfl⟩ (fun j G _ h => .inl (.inl (h.1 _ _ g5))) ?_ ?_
  · rintro j x G G' hj ⟨sG, acc, gD, hacc, he⟩ ⟨rfl, hx⟩
    rw [List.getElem?_map] at hx
    rw [List.length_map, List.length_drop] at hj
    cases hk : (ks.drop 1)[j]? with
    | none => rw [hk] at hx; cases hx
    | some k0 =>
    rw [hk] at hx
    cases hx
    walk_at "st"
    refine ⟨rfl, ?_⟩
    walk_at "st"
    refine i_isT (T.t_HANDS _) rfl rfl ?_
    walk_at "st"
    rw [kd_hands]
    cases hh : k0.isHand with
    | true =>
      refine i_ite rfl ?_
      walk_at "st"
      refine ⟨acc, gD, szl (by omega), Same.mut sG hD6, acc ++ [_], upd_same, by simp; omega, ?_⟩
      rw [take_next hk, List.any_append]
      simp [hh]
    | false =>
      refine i_itf rfl ⟨sG, acc, gD, by omega, ?_⟩
      rw [take_next hk, List.any_append, he]
      simp [hh]
  rintro G6 ⟨s6, acc, g6, hacc, he6⟩
  rw [List.length_map, List.take_of_length_le (Nat.le_refl _)] at he6
  walk_at "st"
  refine i_new (by simp) fun p7 hp7 => ?_
  have s7 := Same.new (o := .lst []) hp7
  refine i_neNL (.inl (.inl (s7 _ _ g6))) (.inl (.inl upd_same)) ?_
  walk_at "st"
  rw [he6, Bool.not_not]
  have hR7 := hR5.mono (Same.trans s6 s7)
  have g7D := (Same.trans s6 s7) _ _ g5D
  generalize upd G6 p7 (.lst []) = G7 at hR7 g7D ⊢
  cases c4 : (ks.drop 1).any Kd.isHand with
  | true =>
    rw [c4, if_pos rfl] at hrd
    refine i_ite rfl ?_
    walk_at "st"
    exact kn hrd _ hR7.same
  | false =>
  rw [c4, if_neg (fun z => by cases z)] at hrd
  refine i_itf rfl ?_
  with_reducible refine i_next ?_
  with_reducible refine i_seq ?_
  with_reducible refine i_ifs ?_
  with_reducible refine i_test ?_
  with_reducible refine i_op ?_
  refine kinds_or rfl g7D fun G8 s8 => ?_
  walk_at "st"
  rw [dec_kc, bl_eq]
  have hR8 := hR7.mono s8
  have hrd2 : rd (t :: S2) l = if hd1 Kd.isHand ks = decide (lst l = cs "or") then act (lst l) t.lacks ks.head? (closeN m (t :: S2)) else none := hrd
  by_cases c5 : hd1 Kd.isHand ks = decide (lst l = cs "or")
  rotate_left
  · rw [if_neg c5] at hrd2
    refine i_ite (by cases z : hd1 Kd.isHand ks <;> cases y : decide (lst l = cs "or") <;> first | rfl | (rw [z, y] at c5; exact absurd rfl c5)) ?_
    walk_at "st"
    exact kn hrd2 _ hR8.same
  rw [if_pos c5] at hrd2
  refine i_itf (by rw [c5]; cases decide (lst l = cs "or") <;> rfl) ?_
  walk_at "st"
  obtain ⟨dr8, er8⟩ := hR8.obj
  obtain ⟨H1, hW, hs01, hkeep⟩ := hR8.wide
  have g8D := s8 _ _ g7D
  refine ⟨r, dr8, _, rfl, er8, rfl, ?_⟩
  walk_at "st"
  have fD := hR3.fresh hD
  have g1D : H1 D = some (.lst (ks.map fun k => V.str k.str)) := hkeep D _ g8D fD.2.2.2 fD.2.2.1 fD.1 fD.2.1
  refine ⟨H1, r, L, b :: as2, t :: S2, d, m, rfl, hW, hw, by omega, hlm, fun G9 as9 hR9 => ?_⟩
  have hsz9 := closeN_sz m (t :: S2)
  have hw9 := closeN_wf m _ hw
  have g9D : G9 D = some (.lst (ks.map fun k => V.str k.str)) := hR9.same _ _ g1D
  replace hR9 := hR9.narrow hs01
  generalize closeN m (t :: S2) = S9 at hrd2 hR9 hsz9 hw9
  match S9, as9, hR9, hsz9, hw9, hrd2 with
  | [], _, _, _, hw9, _ => exact hw9.elim
  | _ :: _, [], hR9, _, _, _ => exact hR9.pts.elim
  | C :: q, b9 :: as9, hR9, hsz9, hw9, hrd2 =>
  have hrd3 : rd (t :: S2) l = if lst l = cs "or" then some (Pt.new .orr :: C :: q)
    else if lst l = cs "else" ∧ hd1 Kd.isIf ks = true then some (Pt.new .els :: C :: q)
    else if lst l = cs "pass" then (if t.lacks = true ∧ C.kd.isElse = false then some ({ C with over := true } :: q) else none)
    else if C.over = true then none
    else match stOf (lst l) with
      | none => none
      | some h => some (push h C q) := hrd2
  have hl9 := szS_len (C :: q)
  have hp9 := hR9.pts.len
  obtain ⟨dr9, er9⟩ := hR9.obj
  walk_at "st"
  -- a new part is laid
  have laid : ∀ (G : Hp) (kd : Kd) (kk : Str), Same G9 G → kk = kd.str → kd.head = .tuple [] → rd (t :: S2) l = some (Pt.new kd :: C :: q) →
      tDrop (tBM K "list" rAppend (tFld K (tVar 0) "blocks_open") (tCons (tMake (He.ga K "Part") (sp_Pinit (K := K)) [] E0 (tCons (tVar 2) (tCons (tTup tNil) tNil))) tNil)) { nx := tRet (tC (.bl true)) { nx := fun _ H' => Q .non H', rt := Q }, rt := Q }
        [some (.ref r), some (.str (mk l)), some (.str kk), some (.int (d : Int)), some (.int ((ahead l % 2 : Nat) : Int)), some (.int (((t :: S2).length : Int) - 1)), some (.bl t.lacks), some (.ref D), none, none] G := by
    intro G kd kk sG hkk hh hrd4
    subst hkk
    have hRG := hR9.mono sG
    obtain ⟨drG, erG⟩ := hRG.obj
    walk_at "st"
    refine i_fld1 erG T.cls_ProgramReader T.na_ProgramReader_blocks_open rfl ?_
    refine i_tyL (.inl (.inl hRG.lst)) ?_
    walk_at "st"
    refine i_new (by simp) fun tp htp => ?_
    walk_at "st"
    intro x dx hx hdx ne
    have sT := Same.new (o := .tup []) htp
    have hxd : upd (upd G tp (.tup [])) dx (.own x) x = none := by rw [upd_ne ne.symm]; exact hx
    have sX : Same G (upd (upd (upd G tp (.tup [])) dx (.own x)) x (.ins (He.ga K "Part") dx [])) := Same.grow (Same.grow sT hdx) hxd
    refine ⟨x, dx, _, _, rfl, upd_same, fun GA R hRn hx' hR' keep => ⟨rfl, ?_⟩⟩
    have hxG : G x = none := sT.free hx
    have s3 : Same G GA := fun b o e => keep b o (fun z => by subst z; rw [hxG] at e; cases e) (sX _ _ e)
    have hRA := hRG.mono s3
    have hRnG : G R = none := sX.free hRn
    have f1 := hRG.fresh hxG
    have f2 := hRG.fresh hRnG
    have tx : tp ≠ x := ne_of_none upd_same hx
    have tdx : tp ≠ dx := ne_of_none upd_same hdx
    have etp : GA tp = some (.tup []) := keep tp _ tx (by rw [upd_ne tx, upd_ne tdx, upd_same])
    walk_at "st"
    refine i_append hRA.lst (by rw [pref_len]; omega) ?_
    walk_at "st"
    refine kt _ hrd4 _ ((x, R) :: b9 :: as9) ?_
    refine hRA.push (b := (x, R)) (t := Pt.new kd) (new_pt (dx := dx) (hv := .ref tp) hx' hR' ?_) (hRG.same.free hxG) (hRG.same.free hRnG) f1.1 f2.2.1 f2.2.2.1
    rw [hh]
    exact .tup (.inl (.inl etp)) .nil
  rw [dec_kc]
  by_cases c6 : lst l = cs "or"
  · rw [if_pos c6] at hrd3
    refine i_ite (decide_eq_true c6) ?_
    refine i_ite rfl ?_
    exact laid G9 .orr _ (Same.refl _) (by rw [c6]; decide +kernel) rfl hrd3
  rw [if_neg c6] at hrd3
  refine i_itf (decide_eq_false c6) ?_
  walk_at "st"
  rw [dec_kc]
  have rest : ∀ G, Same G9 G → ¬ (lst l = cs "else" ∧ hd1 Kd.isIf ks = true) → tSeq (tIfS (tTest (tOp rEq (tVar 2) (tC (.str "pass")))) (tSeq (sFld K (tOp (rIxL K) (tFld K (tVar 0) "blocks_open") (tUn (rU fun i => .int (-i)) (tC (.int 1)))) (tC (.bl true)) "is_over") (tRet (tAndV (tVar 6) (tOp rNe (tFld K (tOp (rIxL K) (tFld K (tVar 0) "blocks_open") (tUn (rU fun i => .int (-i)) (tC (.int 1)))) "kind") (tC (.str "else")))))) tNext)
      (tRet (tAndV (tNotV (tFld K (tOp (rIxL K) (tFld K (tVar 0) "blocks_open") (tUn (rU fun i => .int (-i)) (tC (.int 1)))) "is_over")) (tMeth (He.ga K "ProgramReader") "put" (sp_put (K := K)) [] E0 (tVar 0) (tCons (tCall (sp_stof (K := K)) [] E0 (tCons (tVar 2) tNil)) tNil))))
      { nx := fun _ H' => Q .non H', rt := Q }
      [some (.ref r), some (.str (mk l)), some (.str (mk (lst l))), some (.int (d : Int)), some (.int ((ahead l % 2 : Nat) : Int)), some (.int (((t :: S2).length : Int) - 1)), some (.bl t.lacks), some (.ref D), none, none] G := by
    intro G sG hn
    rw [if_neg hn] at hrd3
    have hRG := hR9.mono sG
    obtain ⟨drG, erG⟩ := hRG.obj
    have hLG := hRG.lst
    rw [pref_cons] at hLG
    obtain ⟨⟨dxC, hvC, eC, dC⟩, _⟩ := hRG.pts.1
    walk_at "st"
    rw [dec_kc]
    by_cases c7 : lst l = cs "pass"
    · rw [if_pos c7] at hrd3
      refine i_ite (decide_eq_true c7) ?_
      walk_at "st"
      refine i_fld1 erG T.cls_ProgramReader T.na_ProgramReader_blocks_open rfl ?_
      walk_at "st"
      refine i_last (.inl (.inl hLG)) ?_
      have hfl : (ptF C hvC b9.2).length < 1000 := by show 4 < 1000; decide
      refine ⟨b9.1, _, dxC, _, rfl, eC, T.cls_Part, T.na_Part_is_over, hfl, ?_⟩
      have epf : putF "is_over" (.bl true) (ptF C hvC b9.2) = ptF { C with over := true } hvC b9.2 := rfl
      rw [epf]
      have hRB := hRG.over eC dC true
      have eB : upd G b9.1 (.ins (He.ga K "Part") dxC (ptF { C with over := true } hvC b9.2)) b9.1 = some (.ins (He.ga K "Part") dxC (ptF { C with over := true } hvC b9.2)) := upd_same
      generalize upd G b9.1 (.ins (He.ga K "Part") dxC (ptF { C with over := true } hvC b9.2)) = GB at hRB eB ⊢
      obtain ⟨drB, erB⟩ := hRB.obj
      have hLB := hRB.lst
      rw [pref_cons] at hLB
      walk_at "st"
      cases hlk : t.lacks with
      | false =>
        rw [if_neg (fun z => by rw [hlk] at z; cases z.1)] at hrd3
        refine i_itf rfl ?_
        exact kn hrd3 _ hRB.same
      | true =>
        refine i_ite rfl ?_
        walk_at "st"
        refine i_fld1 erB T.cls_ProgramReader T.na_ProgramReader_blocks_open rfl ?_
        walk_at "st"
        refine i_last (.inl (.inl hLB)) ?_
        refine i_fld1 eB T.cls_Part T.na_Part_kind rfl ?_
        walk_at "st"
        rw [kd_else]
        cases hel : C.kd.isElse with
        | true =>
          rw [if_neg (fun z => by rw [hel] at z; cases z.2)] at hrd3
          exact kn hrd3 _ hRB.same
        | false =>
          rw [if_pos ⟨hlk, hel⟩] at hrd3
          exact kt _ hrd3 _ _ hRB
    · rw [if_neg c7] at hrd3
      refine i_itf (decide_eq_false c7) ?_
      walk_at "st"
      refine i_fld1 erG T.cls_ProgramReader T.na_ProgramReader_blocks_open rfl ?_
      walk_at "st"
      refine i_last (.inl (.inl hLG)) ?_
      refine i_fld1 eC T.cls_Part T.na_Part_is_over rfl ?_
      walk_at "st"
      cases hov : C.over with
      | true =>
        rw [if_pos hov] at hrd3
        refine i_itf rfl ?_
        exact kn hrd3 _ hRG.same
      | false =>
        rw [if_neg (fun z => by rw [hov] at z; cases z)] at hrd3
        refine i_ite rfl ?_
        walk_at "st"
        refine ⟨r, drG, _, rfl, erG, rfl, ?_⟩
        walk_at "st"
        refine ⟨_, rfl, by omega, fun GC sC => ⟨fun en => ?_, fun dd ed u hu => ?_⟩⟩
        · walk_at "st"
          refine ⟨H0, r, L, b9 :: as9, C, q, .non, rfl, hRG.mono sC, by omega, .inl ⟨rfl, kn ?_⟩⟩
          rw [hrd3]
          cases z : stOf (lst l) with
          | none => rfl
          | some h => rw [z] at en; cases en
        · walk_at "st"
          cases z : stOf (lst l) with
          | none => rw [z] at ed; cases ed
          | some h =>
            rw [z] at ed hrd3
            cases ed
            exact ⟨H0, r, L, b9 :: as9, C, q, u, rfl, hRG.mono sC, by omega, .inr ⟨h, hu, kt _ hrd3⟩⟩
  by_cases c8 : lst l = cs "else"
  · refine i_ite (decide_eq_true c8) ?_
    walk_at "st"
    refine i_slL (.inl (.inl g9D)) fun pa hpa => ?_
    rw [cut_one, ← List.map_take]
    walk_at "st"
    refine i_new (by simp) fun pb hpb => ?_
    have sa := Same.new (o := .lst ((ks.take 1).map fun k => V.str k.str)) hpa
    have sb := Same.grow (o := .lst [.str "if"]) sa hpb
    refine i_eqK ((Same.new hpb) _ _ upd_same) upd_same sh0.2.2.2 ?_
    walk_at "st"
    have e9 : hd1 (fun k => decide (V.str k.str = .str "if")) ks = hd1 Kd.isIf ks := by
      cases ks with
      | nil => rfl
      | cons a r => exact kd_if a
    rw [e9]
    cases hif : hd1 Kd.isIf ks with
    | true =>
      rw [if_pos ⟨c8, hif⟩] at hrd3
      refine i_ite rfl ?_
      exact laid _ .els _ sb (by rw [c8]; decide +kernel) rfl hrd3
    | false =>
      refine i_itf rfl ?_
      exact rest _ sb (fun z => by rw [hif] at z; cases z.2)
  · refine i_itf (decide_eq_false c8) ?_
    refine i_itf rfl ?_
    exact rest _ (Same.refl _) (fun z => c8 z.1)
end
end K04
/-! text E5 -/
set_option Elab.async false
set_option linter.all false
set_option maxRecDepth 100000
set_option maxHeartbeats 4000000
namespace K04
open PySem PySem.Spec PyProof.Rows L2 TL
local macro_rules
  | `(tactic| walk_at "st") => `(tactic| repeat (with_reducible first
    | refine i_seq ?_ | refine i_ret ?_ | refine i_asg ?_ | refine i_name ?_ | refine i_ifs ?_ | refine i_test ?_ | refine i_B ?_ | refine i_bl ?_ | refine i_var (by with_unfolding_all rfl) ?_ | refine i_c ?_
    | refine i_op ?_ | refine i_un ?_ | refine i_cb ?_ | refine i_cons ?_ | refine i_nil ?_ | refine i_call ?_ | refine i_and ?_ | refine i_or ?_ | refine i_not ?_ | refine i_andV ?_ | refine i_orV ?_ | refine i_notV ?_ | refine i_if ?_
    | refine i_tup ?_ | refine i_lst ?_ | refine i_sl ?_ | refine i_nopart ?_ | refine i_part ?_ | refine i_int ?_ | refine i_chain ?_ | refine i_I0 ?_ | refine i_par ?_ | refine i_two ?_ | refine i_bm ?_ | refine i_bm0 ?_ | refine i_m1 ?_ | refine i_tyS ?_ | refine i_str ?_
    | refine i_for ?_ | refine i_iTup ?_ | refine i_iList ?_ | refine i_iStr ?_ | refine i_iRng1 ?_ | refine i_iRng2 ?_ | refine i_iEnum ?_ | refine i_lc ?_ | refine i_yes ?_ | refine i_revL ?_ | refine i_fld ?_ | refine i_sfld ?_ | refine i_meth ?_ | refine i_make ?_ | refine i_isN ?_ | refine i_neg ?_ | refine i_notN ?_ | refine i_intB ?_ | refine i_intI ?_
    | refine i_next ?_ | refine i_drop ?_ | refine i_retN ?_ | refine i_gsub ?_ | refine i_ipI ?_ | refine i_aug (by with_unfolding_all rfl) ?_
    | refine i_eq (by with_unfolding_all rfl) ?_ | refine i_ne (by with_unfolding_all rfl) ?_))
abbrev N_BadText_init : List Str := ["self", "line"]
theorem sc_BadText_init : FnScope N_BadText_init ["self", "line"] (defScope s_BadText_init) := ⟨rfl, rfl, rfl, by decide +kernel, rfl, by decide +kernel, by decide +kernel⟩
section
variable {P : Program} {w : World} {K : PySem.W.Frag} {mg : Str → Option Value} {base : Heap}
abbrev cBT (K : PySem.W.Frag) : Addr := He.ga K "BadText"
theorem oex_ok {x f : Str} (h : oexB K x f = true) : OexC K (He.ga K x) ∧ XfC K (He.ga K x) ∧ PySem.W.findIn K (.ref (He.ga K x)) f = some none ∧
    PySem.W.findIn K (.ref (He.ga K x)) "__init__" = some (some (.ref (He.ma K (He.ga K x) "__init__"))) ∧ PySem.W.typeIn K (.ref (He.ma K (He.ga K x) "__init__")) = some (.type "function") := by
  unfold oexB at h
  split at h
  · rename_i dd cd sl e
    split at h
    · rename_i C bm k0 k1 k2 k3 n k5 e1 e2
      obtain ⟨h1, h⟩ := He.ba h
      obtain ⟨h2, h⟩ := He.ba h
      obtain ⟨h3, h⟩ := He.ba h
      obtain ⟨h4, h⟩ := He.ba h
      obtain ⟨h5, h⟩ := He.ba h
      obtain ⟨h6, h⟩ := He.ba h
      obtain ⟨h7, h⟩ := He.ba h
      obtain ⟨h8, h⟩ := He.ba h
      obtain ⟨h9, h⟩ := He.ba h
      obtain ⟨ha, h⟩ := He.ba h
      obtain ⟨hb, h⟩ := He.ba h
      obtain ⟨hc, hd⟩ := He.ba h
      have h1 := of_decide_eq_true h1
      have h2 := of_decide_eq_true h2
      subst h1
      subst h2
      refine ⟨⟨⟨cd.name, cd.qualname, cd.ns, cd.bases, bm, cd.slotNames, cd.subclasses, cd.abstract, cd.collection, dd, k0, k1, k2, k3, k5, ?_, h5⟩, He.eqO_ok h6, of_decide_eq_true h7, of_decide_eq_true h8, h9⟩, xfB_ok ha, He.eqO_ok hb, He.eqO_ok hc, of_decide_eq_true hd⟩
      rw [e]
      obtain ⟨sl⟩ := sl
      have e2' : sl = [k0, k1, k2, k3, some (.builtin "ValueError.__new__"), k5] := e2
      subst e2'
      cases cd
      simp only at e1 h3 h4
      rw [Bool.not_eq_true'] at h3
      subst e1
      subst h3
      subst h4
      rfl
    · cases h
  · cases h
theorem vei_ok {x : Str} (h : veiB K x = true) : PySem.W.findCls K (.ref (He.ga K x)) (.type "type") "__init__" = some (.val (.builtin "ValueError.__init__")) ∧ PySem.W.readsIn K (He.ga K x) (.type "type") = true ∧ PySem.W.specialIn K (.ref (He.ga K x)) "__getattribute__" = some (some (.builtin "type.__getattribute__")) := by
  unfold veiB at h
  split at h
  · rename_i n e
    obtain ⟨h1, h⟩ := He.ba h
    obtain ⟨h2, h3⟩ := He.ba h
    have h1 := of_decide_eq_true h1
    subst h1
    exact ⟨e, h2, He.eqO_ok h3⟩
  · cases h
def sp_BTinit : Sp := fun vs H Q _ => ∃ (a : Addr) (v : V), vs = [.ref a, v] ∧ H a = some (exo a (cBT K) none) ∧ ∀ dx, H dx = none → dx ≠ a → Q .non (upd (upd H dx (exd dx [("line", v)])) a (exo a (cBT K) (some dx)))
theorem ok_BTinit (T : Txt w K mg) : Mt P w K mg base 1 ("BadText", some "__init__") ["self", "line"] (sp_BTinit (K := K)) := by
  obtain ⟨o1, o2, o3, o4, o5⟩ := oex_ok T.mores.2.2.2.2.2.2.1
  obtain ⟨hv_PE, ht_PE, hq_PE⟩ := vei_ok T.mores.2.2.2.2.2.2.2.2
  obtain ⟨fd, F⟩ := T.d_BadText_init
  refine ⟨fd, (FunD.bindsN F (fun _ _ _ _ _ _ us hl => match us, hl with | [_, _], _ => rfl)), F.ok sc_BadText_init (fun vs H Q E h => ?len) (fun cdv A outer s H vs Q E hr h => ?run)⟩
  case len =>
    obtain ⟨a, v, rfl, _⟩ := h
    rfl
  refine ⟨_, PSs.nox (pss_cons (ps_expr (pe_oinit rfl T.g_PlayError hv_PE ht_PE hq_PE (pa_cons (pv 0) (pa_cons pe_str pa_nil))))
      (pss_one (ps_ost (pv 0) (pv 1)))), ?_⟩
  obtain ⟨a, v, rfl, ha, k⟩ := h
  with_reducible refine i_seq ?_
  with_reducible refine i_drop ?_
  exact ⟨.ref a, rfl, a, cBT K, [.str "BadText"], rfl, by decide, o1, ha, ⟨v, rfl, .ref a, rfl, a, cBT K, rfl, o1, o3, .inl ⟨ha, fun dx h1 h2 => k dx h1 h2⟩⟩⟩
end
end K04
/-! text E6 -/
set_option Elab.async false
set_option linter.all false
set_option maxRecDepth 100000
set_option maxHeartbeats 4000000
namespace K04
open PySem PySem.Spec PyProof.Rows L2 TL
local macro_rules
  | `(tactic| walk_at "st") => `(tactic| repeat (with_reducible first
    | refine i_seq ?_ | refine i_ret ?_ | refine i_asg ?_ | refine i_name ?_ | refine i_ifs ?_ | refine i_test ?_ | refine i_B ?_ | refine i_bl ?_ | refine i_var (by with_unfolding_all rfl) ?_ | refine i_c ?_
    | refine i_op ?_ | refine i_un ?_ | refine i_cb ?_ | refine i_cons ?_ | refine i_nil ?_ | refine i_call ?_ | refine i_and ?_ | refine i_or ?_ | refine i_not ?_ | refine i_andV ?_ | refine i_orV ?_ | refine i_notV ?_ | refine i_if ?_
    | refine i_tup ?_ | refine i_lst ?_ | refine i_sl ?_ | refine i_nopart ?_ | refine i_part ?_ | refine i_int ?_ | refine i_chain ?_ | refine i_I0 ?_ | refine i_par ?_ | refine i_two ?_ | refine i_bm ?_ | refine i_bm0 ?_ | refine i_m1 ?_ | refine i_tyS ?_ | refine i_str ?_
    | refine i_for ?_ | refine i_iTup ?_ | refine i_iList ?_ | refine i_iStr ?_ | refine i_iRng1 ?_ | refine i_iRng2 ?_ | refine i_iEnum ?_ | refine i_lc ?_ | refine i_yes ?_ | refine i_revL ?_ | refine i_fld ?_ | refine i_sfld ?_ | refine i_meth ?_ | refine i_make ?_ | refine i_isN ?_ | refine i_neg ?_ | refine i_notN ?_ | refine i_intB ?_ | refine i_intI ?_
    | refine i_next ?_ | refine i_drop ?_ | refine i_retN ?_ | refine i_gsub ?_ | refine i_ipI ?_ | refine i_aug (by with_unfolding_all rfl) ?_
    | refine i_eq (by with_unfolding_all rfl) ?_ | refine i_ne (by with_unfolding_all rfl) ?_))
abbrev N_parse_program : List Str := ["value", "lines", "reader", "number", "line", "program", "error"]
theorem sc_parse_program : FnScope N_parse_program ["value"] (defScope s_parse_program) := ⟨rfl, rfl, rfl, by decide +kernel, rfl, by decide +kernel, by decide +kernel⟩
section
variable {P : Program} {w : World} {K : PySem.W.Frag} {mg : Str → Option Value} {base : Heap}
def ErrAt (K : PySem.W.Frag) (H : Hp) (E : XK) (n : Nat) : Prop := ∀ (H' : Hp) (d : Addr), Same H H' → H' d = some (.xd [("line", .int (n : Int))]) → E (.ref (cBT K)) (some d) H'
/-- the lines behind the head are read: how it ends -/
structure Ends3 (K : PySem.W.Frag) (H : Hp) (Q : VK) (E : XK) (ls : List (List Nat)) : Prop where
  step : ∀ i l S, ls[i]? = some l → runR start0 (ls.take i) = some S → (∃ S', rd S l = some S') ∨ (rd S l = none ∧ ErrAt K H E (i + 1))
  fin : ∀ S, runR start0 ls = some S → (lacksR S = true ∧ ErrAt K H E (ls.length + 1)) ∨ (lacksR S = false ∧ Prog (fin S) ∧ ∀ H' v, Same H H' → Dp K H' v (bpy (K04.fin S)) → Q v H')
def sp_parse : Sp := fun vs H Q E => ∃ (ls : List (List Nat)), vs = [.str (joinT (cs "program" :: ls))] ∧ (∀ l ∈ ls, LineOk l) ∧ ls.length ≤ 200 ∧ Ends3 K H Q E ls
theorem run_next {ls : List (List Nat)} {i : Nat} {l : List Nat} {S S' : List Pt} (h : ls[i]? = some l) (e : runR start0 (ls.take i) = some S) (e2 : rd S l = some S') : runR start0 (ls.take (i + 1)) = some S' := by
  rw [take_next h, runR_app, e]
  show (match rd S l with | none => none | some S' => runR S' []) = _
  rw [e2]; rfl
theorem nl1 : (Str.length "\n" == 0) = false := by decide +kernel
theorem ok_parse (T : Txt w K mg) : Cl P w K mg base (L2.CX P w) 50 "parse_program" ["value"] (sp_parse (K := K)) := by
  obtain ⟨ox_BadText, _, _, oi_BadText, ot_BadText⟩ := oex_ok T.mores.2.2.2.2.2.2.1
  obtain ⟨_, bX_BadText, GX_BadText⟩ := ok_BTinit (P := P) (base := base) T
  obtain ⟨_, bI_ProgramReader, GI_ProgramReader⟩ := ok_Rinit (P := P) (base := base) T
  obtain ⟨_, b_ProgramReader_read, G_ProgramReader_read⟩ := ok_read (P := P) (base := base) T
  obtain ⟨_, b_ProgramReader_lacks_line, G_ProgramReader_lacks_line⟩ := ok_Rlacks (P := P) (base := base) T
  obtain ⟨_, b_ProgramReader_come_to, G_ProgramReader_come_to⟩ := ok_come (P := P) (base := base) T
  have c_program_error := ok_program_error (P := P) (base := base) T
  obtain ⟨fd, F⟩ := T.d_parse_program
  obtain ⟨_, hc_HEAD⟩ := T.c_HEAD
  refine ⟨_, fd, T.g_parse_program, F.kp, (FunD.bindsN F (fun _ _ _ _ _ _ us hl => match us, hl with | [_], _ => rfl)), F.ok sc_parse_program (fun vs H Q E h => ?len) (fun cdv A outer s H vs Q E hr h => ?run)⟩
  case len =>
    obtain ⟨ls, rfl, _⟩ := h
    rfl
  refine ⟨_, ( (pss_cons (ps_if (pt_not (pt_val (pe_callB call_isi (by rfl) T.f_isinstance (by decide +kernel) (pa_cons (pv 0) (pa_cons (pe_bltn (v := .ty "str") rfl T.f_str boot_str rfl) pa_nil))))) (pss_one ps_never) pss_nil)
      (pss_cons (ps_set (i := 1) sc_parse_program.nd rfl (by first | exact Or.inl rfl | exact Or.inr rfl) (show PE _ _ (tM1 rSplit _ _) from pe_split (pv 0) pe_str))
      (pss_cons (ps_if (pt_cmpR op_ne (pe_ix ix_list (pv 1) pe_int (fun _ _ => rfl)) (pe_glob (v := .str "program") rfl hc_HEAD ⟨_, rfl⟩) (nomark _)) (pss_one ps_never) pss_nil)
      (pss_cons (ps_set (i := 2) sc_parse_program.nd rfl (by first | exact Or.inl rfl | exact Or.inr rfl) (pe_make0 T.mk_ProgramReader GI_ProgramReader (hr.mono (by omega)) rfl T.g_ProgramReader bI_ProgramReader .nil pass0))
      (pss_cons (ps_for (passes_of rfl) rfl (pi_enum (by rfl) T.f_enumerate (pa_cons (pv 1) pa_nil)) (pg_tup rfl (pgs_cons (pg_name (i := 3) sc_parse_program.nd rfl (by first | exact Or.inl rfl | exact Or.inr rfl)) (pgs_cons (pg_name (i := 4) sc_parse_program.nd rfl (by first | exact Or.inl rfl | exact Or.inr rfl)) pgs_nil))) (pss_one (ps_if (PW.pt (pw_and (pt_cmpR op_gt (pv 3) pe_int (nomark _)) (pw_and1 (pt_not (pt_val (pe_meth (pv 2) T.cls_ProgramReader T.m_ProgramReader_read G_ProgramReader_read (hr.mono (by omega)) b_ProgramReader_read .nil pass0 (pa_cons (pv 4) pa_nil))))))) (pss_one (ps_raise rfl (takes_of rfl rfl rfl rfl) (pmk_oex ox_BadText oi_BadText ot_BadText GX_BadText (hr.mono (by omega)) bX_BadText .nil pass0 rfl T.g_BadText (pa_cons (pv 3) pa_nil)))) pss_nil)))
      (pss_cons (ps_if (pt_val (pe_meth0 (pv 2) T.cls_ProgramReader T.m_ProgramReader_lacks_line G_ProgramReader_lacks_line (hr.mono (by omega)) b_ProgramReader_lacks_line .nil pass0)) (pss_one (ps_raise rfl (takes_of rfl rfl rfl rfl) (pmk_oex ox_BadText oi_BadText ot_BadText GX_BadText (hr.mono (by omega)) bX_BadText .nil pass0 rfl T.g_BadText (pa_cons (pe_callB call_lenX (by rfl) T.f_len (by decide +kernel) (pa_cons (pv 1) pa_nil)) pa_nil)))) pss_nil)
      (pss_cons (ps_expr (pe_meth (pv 2) T.cls_ProgramReader T.m_ProgramReader_come_to G_ProgramReader_come_to (hr.mono (by omega)) b_ProgramReader_come_to .nil pass0 (pa_cons pe_int pa_nil)))
      (pss_cons (ps_set (i := 5) sc_parse_program.nd rfl (by first | exact Or.inl rfl | exact Or.inr rfl) (pe_callTy call_tuple_of (by rfl) T.f_tuple (by decide +kernel) (pa_cons (pe_fld (pe_ix ix_list (pe_fld (pv 2) rfl) pe_int (fun _ _ => rfl)) rfl) pa_nil)))
      (pss_cons (ps_set (i := 6) sc_parse_program.nd rfl (by first | exact Or.inl rfl | exact Or.inr rfl) (pcl c_program_error (hr.mono (by omega)) (pa_cons (pv 5) pa_nil)))
      (pss_cons (ps_if (pt_cmpR op_notN1 (pv 6) pe_non (nomark _)) (pss_one ps_never) pss_nil)
      (pss_one (ps_ret (pv 5)))))))))))))), ?_⟩
  obtain ⟨ls, rfl, hok, hlen, h3⟩ := h
  have hall : ∀ l ∈ (cs "program" :: ls), LineOk l := by
    intro l hl
    rcases List.mem_cons.mp hl with rfl | hl
    · exact ⟨by decide +kernel, by decide +kernel⟩
    · exact hok l hl
  have htl : (joinT (cs "program" :: ls)).length ≤ 90000 := by
    have := joinT_len (k := 300) fun l hl => (hall l hl).2
    rw [List.length_cons] at this
    omega
  have hsp : Txt.split (joinT (cs "program" :: ls)) "\n" = (cs "program" :: ls).map mk := split_joinT (by simp) fun l hl => (hall l hl).1
  -- a raise BadText(n)
  have boom : ∀ (σ : L2.St) (G : Hp) (n : Nat) (ta : TA), Same H G → ErrAt K H E n → (∀ Q1 : List V → Hp → Prop, Q1 [.int (n : Int)] G → ta σ G Q1) → tMkO (cBT K) (sp_BTinit (K := K)) [] ta σ G (fun cls d H' => E cls d H') := by
    intro σ G n ta sG he hta
    refine hta _ ⟨by simp, fun a ha => ?_⟩
    refine ⟨a, .int (n : Int), rfl, upd_same, fun dx hdx ne => ⟨rfl, dx, [("line", .int (n : Int))], upd_same, ?_, ?_, ?_⟩⟩
    · rw [upd_ne ne, upd_same]
    · rw [upd_ne ne] at hdx; exact hdx
    · have hdG : G dx = none := by rw [upd_ne ne] at hdx; exact hdx
      refine he _ dx (fun b o e => ?_) upd_same
      have e2 := sG _ _ e
      have b1 : b ≠ dx := ne_of_none e2 hdG
      have b2 : b ≠ a := ne_of_none e2 ha
      rw [upd_ne b1, del_ne b2, upd_ne b2, upd_ne b1, upd_ne b2]
      exact e2
  walk_at "st"
  refine r_y (.base (.str _)) ?_
  walk_at "st"
  refine i_itf rfl ?_
  walk_at "st"
  refine i_split nl1 (by omega) fun L1 hL1 => ?_
  rw [hsp]
  have s1 := Same.new (o := .lst (((cs "program" :: ls).map mk).map V.str)) hL1
  have g1 : upd H L1 (.lst (((cs "program" :: ls).map mk).map V.str)) L1 = some (.lst (((cs "program" :: ls).map mk).map V.str)) := upd_same
  generalize upd H L1 (.lst (((cs "program" :: ls).map mk).map V.str)) = G1 at s1 g1 ⊢
  walk_at "st"
  refine i_ixL (j := 0) (v := .str (mk (cs "program"))) (.inl (.inl g1)) rfl ?_
  walk_at "st"
  refine i_itf (by decide +kernel) ?_
  walk_at "st"
  intro r dr hr0 hdr0 ne
  have hrd0 : upd G1 dr (.own r) r = none := by rw [upd_ne ne.symm]; exact hr0
  refine ⟨r, dr, G1, rfl, upd_same, Same.grow (Same.new hdr0) hrd0, hr0, fun G2 L as hR2 => ⟨rfl, ?_⟩⟩
  walk_at "st"
  have g2 := hR2.same _ _ g1
  refine ⟨L1, _, rfl, .inl (.inl g2), ?_⟩
  have hxl : (((cs "program" :: ls).map mk).map V.str).length = ls.length + 1 := by simp
  refine for_it (walk_enum (xs := ((cs "program" :: ls).map mk).map V.str)) (fun j τ G => ∃ x3 x4 as' S, τ = [some (.str (joinT (cs "program" :: ls))), some (.ref L1), some (.ref r), x3, x4, none, none] ∧ Rdr K G1 G r L as' S ∧ Wf S ∧ szS S ≤ 1 + j ∧ runR start0 (ls.take (j - 1)) = some S) ⟨_, _, as, start0, rfl, hR2, wf0, by decide, rfl⟩ ?_ ?_ ?_
  · rintro j τ G _ ⟨x3, x4, as', S, rfl, hR, _⟩
    exact .inl (.inl (hR.same _ _ g1))
  · rintro j x τ G G' hj ⟨x3, x4, as', S, rfl, hR, hw, hsz, hrun⟩ ⟨t, x1, y1, rfl, ht, rfl, ex, ey⟩
    cases ex
    have hR' := hR.mono (Same.new (o := .tup [.int (j : Int), y1]) ht)
    have gT : upd G t (.tup [.int (j : Int), y1]) t = some (.tup [.int (j : Int), y1]) := upd_same
    generalize upd G t (.tup [.int (j : Int), y1]) = G3 at hR' gT ⊢
    refine i_gtup (.inl (.inl gT)) rfl ?_
    refine i_gcons ?_
    walk_at "st"
    refine i_gcons ?_
    walk_at "st"
    refine i_gnil ?_
    walk_at "st"
    rw [hxl] at hj
    cases j with
    | zero =>
      refine i_itf (decide_eq_false (by decide)) ?_
      refine i_itf rfl ?_
      exact ⟨_, _, as', S, rfl, hR', hw, by omega, hrun⟩
    | succ i =>
      refine i_ite (decide_eq_true (by omega)) ?_
      obtain ⟨l, hl⟩ : ∃ l, ls[i]? = some l := ⟨_, List.getElem?_eq_getElem (by omega)⟩
      have ey2 : y1 = .str (mk l) := by
        replace ey : (((cs "program" :: ls).map mk).map V.str)[i + 1]? = some y1 := ey
        rw [List.map_cons, List.map_cons, List.getElem?_cons_succ, List.getElem?_map, List.getElem?_map, hl] at ey
        cases ey; rfl
      subst ey2
      obtain ⟨dr3, er3⟩ := hR'.obj
      have hrun' : runR start0 (ls.take i) = some S := hrun
      walk_at "st"
      refine ⟨r, dr3, _, rfl, er3, rfl, ?_⟩
      walk_at "st"
      have hl9 : l.length ≤ 90000 := by have := (hok l (List.mem_of_getElem? hl)).2; omega
      refine ⟨G1, r, L, as', S, l, rfl, hR', hw, by omega, hl9, fun hn G4 s4 => ?_, fun S' hS G4 as4 hR4 => ?_⟩
      · walk_at "st"
        refine i_ite rfl ?_
        rcases h3.step i l S hl hrun' with ⟨S', e⟩ | ⟨_, he⟩
        · rw [hn] at e; cases e
        · exact boom _ G4 (i + 1) _ (Same.trans s1 s4) he fun Q1 q => ⟨_, rfl, q⟩
      · walk_at "st"
        refine i_itf rfl ?_
        exact ⟨_, _, as4, S', rfl, hR4, hw.rd hS, by have := rd_sz hS; omega, run_next hl hrun' hS⟩
  · rintro τ G ⟨x3, x4, as', S, rfl, hR, hw, hsz, hrun⟩
    rw [hxl, Nat.add_sub_cancel, List.take_length] at hrun
    rw [hxl] at hsz
    obtain ⟨dr3, er3⟩ := hR.obj
    have hne : S ≠ [] := by rintro rfl; exact hw.elim
    walk_at "st"
    refine ⟨r, dr3, _, rfl, er3, rfl, ?_⟩
    walk_at "st"
    refine ⟨G1, r, L, as', S, rfl, hR, hne, by omega, fun G4 s4 => ?_⟩
    walk_at "st"
    have hR4 := hR.mono s4
    rcases h3.fin S hrun with ⟨hlk, he⟩ | ⟨hlk, hp, k⟩
    · refine i_ite hlk ?_
      refine boom _ G4 (ls.length + 1) _ (Same.trans s1 hR4.same) he fun Q1 q => ?_
      walk_at "st"
      refine i_lenL (.inl (.inl (hR4.same _ _ g1))) ?_
      rw [hxl]
      exact q
    · refine i_itf hlk ?_
      walk_at "st"
      refine ⟨r, dr3, _, rfl, s4 _ _ er3, rfl, ?_⟩
      walk_at "st"
      obtain ⟨m, hm⟩ : ∃ m, S.length = m + 1 := by
        cases S with
        | nil => exact absurd rfl hne
        | cons a b => exact ⟨b.length, rfl⟩
      obtain ⟨T0, hc, hrows⟩ := closeN_fin m S hm
      refine ⟨G1, r, L, as', S, 0, m, rfl, hR4, hw, by omega, by omega, fun G5 as5 hR5 => ?_⟩
      rw [hc] at hR5
      match as5, hR5 with
      | [], hR5 => exact hR5.pts.elim
      | _ :: _ :: _, hR5 => exact hR5.pts.2.elim
      | [b5], hR5 =>
        obtain ⟨dr5, er5⟩ := hR5.obj
        obtain ⟨⟨dxp, hvp, ep, dp⟩, ⟨xr, exr, dxr⟩⟩ := hR5.pts.1
        walk_at "st"
        refine i_fld1 er5 T.cls_ProgramReader T.na_ProgramReader_blocks_open rfl ?_
        walk_at "st"
        refine i_ixL (j := 0) (v := .ref b5.1) (.inl (.inl hR5.lst)) rfl ?_
        refine i_fld1 ep T.cls_Part T.na_Part_rows rfl ?_
        walk_at "st"
        refine ⟨b5.2, xr, rfl, .inl ⟨.inl (.inl exr), fun tp htp => ?_⟩⟩
        walk_at "st"
        have s6 := Same.new (o := .tup xr) htp
        have dprog : Dp K (upd G5 tp (.tup xr)) (.ref tp) (bpy (fin S)) := by rw [← hrows]; exact .tup (.inl (.inl upd_same)) (dpa_mono s6 dxr)
        refine ⟨_, fin S, rfl, dprog, hp, fun G7 s7 => ?_⟩
        walk_at "st"
        refine i_itf rfl ?_
        walk_at "st"
        exact k G7 _ (Same.trans s1 (Same.trans hR5.same (Same.trans s6 s7))) (dp_mono s7 dprog)
end
end K04
/-! text F0 -/
set_option Elab.async false
set_option linter.all false
set_option maxRecDepth 100000
set_option maxHeartbeats 4000000
/-! The law's deck in the heap; what calls leave as it was -/
namespace K04
open PySem PySem.Spec PyProof.Rows L2 TL
/-- all but what stands at X is kept -/
def Kp (X : List Addr) (H H' : Hp) : Prop := ∀ a o, a ∉ X → H a = some o → H' a = some o
theorem Kp.refl (X : List Addr) (H : Hp) : Kp X H H := fun _ _ _ h => h
theorem Kp.trans {X : List Addr} {H H1 H2 : Hp} (a : Kp X H H1) (b : Kp X H1 H2) : Kp X H H2 := fun x o n h => b x o n (a x o n h)
theorem Kp.of {X : List Addr} {H H' : Hp} (s : Same H H') : Kp X H H' := fun a o _ h => s a o h
theorem Kp.up {X Y : List Addr} {H H' : Hp} (h : Kp X H H') (s : ∀ a ∈ X, a ∈ Y) : Kp Y H H' := fun a o n e => h a o (fun z => n (s a z)) e
theorem Kp.upd {X : List Addr} {H : Hp} {a : Addr} {o : HO} (h : a ∈ X) : Kp X H (upd H a o) := fun b u n e => by rw [upd_ne (fun z => n (by rw [z]; exact h))]; exact e
theorem Kp.tk {X : List Addr} {H H' : Hp} (h : Kp X H H') (hx : ∀ a ∈ X, ∃ xs, H a = some (.lst xs)) : TK H H' := fun a xs r => by
  have na : a ∉ X := fun z => by
    obtain ⟨ys, e⟩ := hx a z
    rcases r with r | ⟨ob, r⟩ <;> rw [e] at r <;> cases r
  rcases r with r | ⟨ob, r⟩
  · exact .inl (h _ _ na r)
  · exact .inr ⟨ob, h _ _ na r⟩
theorem Kp.seq {K : PySem.W.Frag} {X : List Addr} {H H' : Hp} {a : Addr} {xs : List V} (h : Kp X H H') (n : a ∉ X) (s : SqL K H a xs) : SqL K H' a xs := by
  rcases s with (s | ⟨o, s⟩) | s
  · exact .inl (.inl (h _ _ n s))
  · exact .inl (.inr ⟨o, h _ _ n s⟩)
  · exact .inr s
structure Dk (H : Hp) (D C : Addr) (b : Nat) : Prop where
  ne : D ≠ C
  at_ : ∃ (cells : List Int) (cnt : Int), H D = some (.lst [.ref C, .int cnt]) ∧ H C = some (.lst (cells.map V.int)) ∧ (∀ c ∈ cells, 0 ≤ c) ∧ cells.length ≤ 63 ∧ 0 ≤ cnt ∧ cnt + b ≤ 1000000000
theorem Dk.less {H : Hp} {D C : Addr} {b b' : Nat} (h : Dk H D C b) (l : b' ≤ b) : Dk H D C b' := by
  obtain ⟨n, cells, cnt, e1, e2, e3, e4, e5, e6⟩ := h
  exact ⟨n, cells, cnt, e1, e2, e3, e4, e5, by omega⟩
theorem Dk.kp {H H' : Hp} {D C : Addr} {b : Nat} {X : List Addr} (h : Dk H D C b) (k : Kp X H H') (n1 : D ∉ X) (n2 : C ∉ X) : Dk H' D C b := by
  obtain ⟨n, cells, cnt, e1, e2, e3⟩ := h
  exact ⟨n, cells, cnt, k _ _ n1 e1, k _ _ n2 e2, e3⟩
theorem Dk.same {H H' : Hp} {D C : Addr} {b : Nat} (h : Dk H D C b) (k : Same H H') : Dk H' D C b := h.kp (X := []) (Kp.of k) (by simp) (by simp)
theorem Dk.lists {H : Hp} {D C : Addr} {b : Nat} (h : Dk H D C b) : ∀ a ∈ [D, C], ∃ xs, H a = some (.lst xs) := by
  obtain ⟨n, cells, cnt, e1, e2, e3⟩ := h
  intro a ha
  simp only [List.mem_cons, List.not_mem_nil, or_false] at ha
  rcases ha with rfl | rfl
  · exact ⟨_, e1⟩
  · exact ⟨_, e2⟩
theorem Dk.fresh {H : Hp} {D C a : Addr} {b : Nat} (h : Dk H D C b) (ha : H a = none) : a ∉ [D, C] := by
  intro z
  obtain ⟨xs, e⟩ := h.lists a z
  rw [ha] at e; cases e
/-- behind a call: all else is kept, the deck may have turned -/
def After (K : PySem.W.Frag) (H : Hp) (D C : Addr) (b : Nat) (Q : Hp → Prop) : Prop := ∀ H', Kp [D, C] H H' → Dk H' D C b → Q H'
theorem i_setL {H : Hp} {R : Hp → Prop} {p : Addr} {xs : List V} {v : V} {j : Nat} (h : H p = some (.lst xs)) (hj : j < xs.length) (k : R (upd H p (.lst (xs.set j v)))) : rSetL (.ref p) (.int (j : Int)) v H R := by
  refine ⟨p, xs, j, j, rfl, rfl, h, ?_, k⟩
  unfold ixN
  rw [if_pos (by omega), if_pos (by omega)]; rfl
theorem dk_lt (cnt : Int) (h1 : 0 ≤ cnt) (h2 : cnt ≤ 1000000000) (c : Int) (h3 : 0 ≤ c) (h4 : c < 2147483563) : (c + 8117 * cnt + 3).natAbs < 2 ^ 64 := by
  have : (2 : Nat) ^ 64 = 18446744073709551616 := by decide
  omega
end K04
/-! text F1 -/
set_option Elab.async false
set_option linter.all false
set_option maxRecDepth 100000
set_option maxHeartbeats 4000000
namespace K04
open PySem PySem.Spec PyProof.Rows L2 TL
local macro_rules
  | `(tactic| walk_at "st") => `(tactic| repeat (with_reducible first
    | refine i_seq ?_ | refine i_ret ?_ | refine i_asg ?_ | refine i_name ?_ | refine i_ifs ?_ | refine i_test ?_ | refine i_B ?_ | refine i_bl ?_ | refine i_var (by with_unfolding_all rfl) ?_ | refine i_c ?_
    | refine i_op ?_ | refine i_un ?_ | refine i_cb ?_ | refine i_cons ?_ | refine i_nil ?_ | refine i_call ?_ | refine i_and ?_ | refine i_or ?_ | refine i_not ?_ | refine i_andV ?_ | refine i_orV ?_ | refine i_notV ?_ | refine i_if ?_
    | refine i_tup ?_ | refine i_lst ?_ | refine i_sl ?_ | refine i_nopart ?_ | refine i_part ?_ | refine i_int ?_ | refine i_chain ?_ | refine i_I0 ?_ | refine i_par ?_ | refine i_two ?_ | refine i_bm ?_ | refine i_bm0 ?_ | refine i_m1 ?_ | refine i_tyS ?_ | refine i_str ?_
    | refine i_for ?_ | refine i_iTup ?_ | refine i_iList ?_ | refine i_iStr ?_ | refine i_iRng1 ?_ | refine i_iRng2 ?_ | refine i_iEnum ?_ | refine i_lc ?_ | refine i_yes ?_ | refine i_revL ?_ | refine i_fld ?_ | refine i_sfld ?_ | refine i_meth ?_ | refine i_make ?_ | refine i_isN ?_ | refine i_neg ?_ | refine i_notN ?_ | refine i_intB ?_ | refine i_intI ?_
    | refine i_next ?_ | refine i_drop ?_ | refine i_retN ?_ | refine i_gsub ?_ | refine i_ipI ?_ | refine i_aug (by with_unfolding_all rfl) ?_
    | refine i_eq (by with_unfolding_all rfl) ?_ | refine i_ne (by with_unfolding_all rfl) ?_))
abbrev N__law_deck : List Str := ["_law_script", "_law_cell"]
theorem sc__law_deck : FnScope N__law_deck ["_law_script"] (defScope s__law_deck) := ⟨rfl, rfl, rfl, by decide +kernel, rfl, by decide +kernel, by decide +kernel⟩
abbrev N__law_draw : List Str := ["_law_deck_here", "_law_many", "_law_cell", "_law_at", "_law_mixed"]
theorem sc__law_draw : FnScope N__law_draw ["_law_deck_here", "_law_many"] (defScope s__law_draw) := ⟨rfl, rfl, rfl, by decide +kernel, rfl, by decide +kernel, by decide +kernel⟩
abbrev N__law_one : List Str := ["_law_deck_here", "_law_items"]
theorem sc__law_one : FnScope N__law_one ["_law_deck_here", "_law_items"] (defScope s__law_one) := ⟨rfl, rfl, rfl, by decide +kernel, rfl, by decide +kernel, by decide +kernel⟩
section
variable {P : Program} {w : World} {K : PySem.W.Frag} {mg : Str → Option Value} {base : Heap}
def sp_ldraw : Sp := fun vs H Q _ => ∃ (D C : Addr) (b : Nat) (m : Int), vs = [.ref D, .int m] ∧ 1 ≤ m ∧ m ≤ 1000000 ∧ Dk H D C (b + 1) ∧ ∀ r : Int, 0 ≤ r → r < m → After K H D C b fun H' => Q (.int r) H'
theorem ok_ldraw (T : Txt w K mg) : Cl P w K mg base CX0 1 "_law_draw" ["_law_deck_here", "_law_many"] (sp_ldraw (K := K)) := by
  obtain ⟨fd, F⟩ := T.d__law_draw
  refine ⟨_, fd, T.g__law_draw, F.kp, (FunD.bindsN F (fun _ _ _ _ _ _ us hl => match us, hl with | [_, _], _ => rfl)), F.ok sc__law_draw (fun vs H Q E h => ?len) (fun cdv A outer s H vs Q E hr h => ?run)⟩
  case len =>
    obtain ⟨D, C, b, m, rfl, _⟩ := h
    all_goals rfl
  refine ⟨_, PSs.nox (pss_cons (ps_asg (pe_op op_add (pe_ix ix_list (pv 0) pe_int (fun _ _ => rfl)) pe_int) (pg_sub (pv 0) pe_int set_list))
      (pss_cons (ps_asg (pe_tup (pa_cons pe_int (pa_cons (pe_un un_neg pe_int) pa_nil))) (pg_tup rfl (pgs_cons (pg_name (i := 2) sc__law_draw.nd rfl (by first | exact Or.inl rfl | exact Or.inr rfl)) (pgs_cons (pg_name (i := 3) sc__law_draw.nd rfl (by first | exact Or.inl rfl | exact Or.inr rfl)) pgs_nil))))
      (pss_cons (ps_if (pt_cmpR op_gt (pe_callB call_lenX (by rfl) T.f_len (by decide +kernel) (pa_cons (pe_ix ix_list (pv 0) pe_int (fun _ _ => rfl)) pa_nil)) pe_int (nomark _)) (pss_cons (ps_set (i := 3) sc__law_draw.nd rfl (by first | exact Or.inl rfl | exact Or.inr rfl) (pe_op op_mod (pe_callTy call_intX (by rfl) T.f_int (by decide +kernel) (pa_cons (pe_ix ix_list (pv 0) pe_int (fun _ _ => rfl)) pa_nil)) (pe_callB call_lenX (by rfl) T.f_len (by decide +kernel) (pa_cons (pe_ix ix_list (pv 0) pe_int (fun _ _ => rfl)) pa_nil))))
      (pss_one (ps_set (i := 2) sc__law_draw.nd rfl (by first | exact Or.inl rfl | exact Or.inr rfl) (pe_ix ix_list (pe_ix ix_list (pv 0) pe_int (fun _ _ => rfl)) (pv 3) (fun _ _ => rfl))))) pss_nil)
      (pss_cons (ps_if (pt_cmpR op_ge (pv 2) (pe_op op_pow pe_int pe_int) (nomark _)) (pss_cons (ps_asg (pe_op op_fdiv (pe_callTy call_intX (by rfl) T.f_int (by decide +kernel) (pa_cons (pv 2) pa_nil)) (pv 1)) (pg_sub (pe_ix ix_list (pv 0) pe_int (fun _ _ => rfl)) (pv 3) set_list))
      (pss_one (ps_ret (pe_op op_mod (pe_callTy call_intX (by rfl) T.f_int (by decide +kernel) (pa_cons (pv 2) pa_nil)) (pv 1))))) pss_nil)
      (pss_cons (ps_set (i := 4) sc__law_draw.nd rfl (by first | exact Or.inl rfl | exact Or.inr rfl) (pe_op op_add (pe_op op_add (pe_op op_mod (pe_callTy call_intX (by rfl) T.f_int (by decide +kernel) (pa_cons (pv 2) pa_nil)) pe_int) (pe_op op_mul pe_int (pe_ix ix_list (pv 0) pe_int (fun _ _ => rfl)))) pe_int))
      (pss_one (ps_ret (pe_op op_mod (pe_callTy call_intX (by rfl) T.f_int (by decide +kernel) (pa_cons (pe_op op_mod (pe_callTy call_intX (by rfl) T.f_int (by decide +kernel) (pa_cons (pe_op op_pow (pv 4) pe_int) pa_nil)) pe_int) pa_nil)) (pv 1))))))))), ?_⟩
  obtain ⟨D, C, b, m, rfl, hm1, hm2, ⟨ne, cells, cnt, hD, hC, hpos, hlen, hc0, hcb⟩, k⟩ := h
  walk_at "st"
  refine i_ixL (j := 1) (v := .int cnt) (.inl (.inl hD)) rfl ?_
  walk_at "st"
  refine i_setL (j := 1) hD (by simp) ?_
  walk_at "st"
  have hD1 : upd H D (.lst ([.ref C, .int cnt].set 1 (.int (cnt + 1)))) D = some (.lst [.ref C, .int (cnt + 1)]) := upd_same
  have hC1 : upd H D (.lst ([.ref C, .int cnt].set 1 (.int (cnt + 1)))) C = some (.lst (cells.map V.int)) := by rw [upd_ne ne.symm]; exact hC
  have k1 : Kp [D, C] H (upd H D (.lst ([.ref C, .int cnt].set 1 (.int (cnt + 1))))) := Kp.upd (by simp)
  generalize upd H D (.lst ([.ref C, .int cnt].set 1 (.int (cnt + 1)))) = G1 at hD1 hC1 k1 ⊢
  refine i_new (by simp) fun tp htp => ?_
  refine i_gtup (.inl (.inl upd_same)) rfl ?_
  refine i_gcons ?_
  walk_at "st"
  refine i_gcons ?_
  walk_at "st"
  refine i_gnil ?_
  walk_at "st"
  have s2 := Same.new (o := .tup [.int 0, .int (-1)]) htp
  replace hD1 := s2 _ _ hD1
  replace hC1 := s2 _ _ hC1
  replace k1 := Kp.trans k1 (Kp.of s2)
  generalize upd G1 tp (.tup [.int 0, .int (-1)]) = G1 at hD1 hC1 k1 ⊢
  refine i_ixL (j := 0) (v := .ref C) (.inl (.inl hD1)) rfl ?_
  walk_at "st"
  refine i_lenL (.inl (.inl hC1)) ?_
  walk_at "st"
  -- behind the choice of a cell
  have rest : ∀ (c at_ : Int), 0 ≤ c → ((∃ j : Nat, at_ = (j : Int) ∧ j < cells.length) ∨ c < 10 ^ 18) →
      tSeq (tIfS (tTest (tOp (rI0 fun i j => .bl (decide (j ≤ i))) (tVar 2) (tOp (rI CPow fun i j => .int (i ^ j.toNat)) (tC (.int 10)) (tC (.int 18)))))
        (tSeq (tAsg (tOp (rI CDiv fun i j => .int (i / j)) (tCB rInt (tCons (tVar 2) tNil)) (tVar 1)) (gSub (tOp (rIxL K) (tVar 0) (tC (.int 0))) (tVar 3) rSetL)) (tRet (tOp (rI (fun _ j => 0 < j) fun i j => .int (i % j)) (tCB rInt (tCons (tVar 2) tNil)) (tVar 1)))) tNext)
        (tSeq (tAsg (tOp (rI0 fun i j => .int (i + j)) (tOp (rI0 fun i j => .int (i + j)) (tOp (rI (fun _ j => 0 < j) fun i j => .int (i % j)) (tCB rInt (tCons (tVar 2) tNil)) (tC (.int 2147483563))) (tOp (rI CMul fun i j => .int (i * j)) (tC (.int 8117)) (tOp (rIxL K) (tVar 0) (tC (.int 1))))) (tC (.int 3))) (gName 4))
          (tRet (tOp (rI (fun _ j => 0 < j) fun i j => .int (i % j)) (tCB rInt (tCons (tOp (rI (fun _ j => 0 < j) fun i j => .int (i % j)) (tCB rInt (tCons (tOp (rI CPow fun i j => .int (i ^ j.toNat)) (tVar 4) (tC (.int 5))) tNil)) (tC (.int 2147483629))) tNil)) (tVar 1))))
      { nx := fun _ H' => Q .non H', rt := Q } [some (.ref D), some (.int m), some (.int c), some (.int at_), none] G1 := by
    intro c at_ hc hat
    walk_at "st"
    refine i_I ⟨by omega, by omega, by decide⟩ ?_
    walk_at "st"
    by_cases hbig : ((10 : Int) ^ (18 : Int).toNat) ≤ c
    · refine i_ite (decide_eq_true hbig) ?_
      obtain ⟨j, rfl, hj⟩ : ∃ j : Nat, at_ = (j : Int) ∧ j < cells.length := by
        rcases hat with h | h
        · exact h
        · exfalso
          have : (10 : Int) ^ (18 : Int).toNat = 10 ^ 18 := rfl
          omega
      walk_at "st"
      refine i_I ⟨by omega, by omega⟩ ?_
      walk_at "st"
      refine i_ixL (j := 0) (v := .ref C) (.inl (.inl hD1)) rfl ?_
      walk_at "st"
      refine i_setL (j := j) hC1 (by rw [List.length_map]; exact hj) ?_
      walk_at "st"
      refine i_I (by omega) ?_
      refine k (c % m) (Int.emod_nonneg _ (by omega)) (Int.emod_lt_of_pos _ (by omega)) _ (Kp.trans k1 (Kp.upd (by simp))) ⟨ne, cells.set j (c / m), cnt + 1, ?_, ?_, ?_, by rw [List.length_set]; exact hlen, by omega, by omega⟩
      · rw [upd_ne ne]; exact hD1
      · rw [upd_same, List.map_set]
      · intro x hx
        rcases List.mem_or_eq_of_mem_set hx with hx | rfl
        · exact hpos x hx
        · exact Int.ediv_nonneg hc (by omega)
    · refine i_itf (decide_eq_false hbig) ?_
      walk_at "st"
      refine i_I (by omega) ?_
      walk_at "st"
      refine i_ixL (j := 1) (v := .int (cnt + 1)) (.inl (.inl hD1)) rfl ?_
      refine i_I (.inl (by omega)) ?_
      walk_at "st"
      refine i_I ⟨by omega, by omega, dk_lt (cnt + 1) (by omega) (by omega) _ (Int.emod_nonneg _ (by omega)) (Int.emod_lt_of_pos _ (by omega))⟩ ?_
      walk_at "st"
      refine i_I (by omega) ?_
      walk_at "st"
      refine i_I (by omega) ?_
      exact k _ (Int.emod_nonneg _ (by omega)) (Int.emod_lt_of_pos _ (by omega)) _ k1 ⟨ne, cells, cnt + 1, hD1, hC1, hpos, hlen, by omega, by omega⟩
  by_cases h0 : 0 < cells.length
  · refine i_ite (decide_eq_true (by rw [List.length_map]; omega)) ?_
    walk_at "st"
    refine i_ixL (j := 1) (v := .int (cnt + 1)) (.inl (.inl hD1)) rfl ?_
    walk_at "st"
    refine i_ixL (j := 0) (v := .ref C) (.inl (.inl hD1)) rfl ?_
    walk_at "st"
    refine i_lenL (.inl (.inl hC1)) ?_
    rw [List.length_map]
    refine i_I (by omega) ?_
    walk_at "st"
    refine i_ixL (j := 0) (v := .ref C) (.inl (.inl hD1)) rfl ?_
    walk_at "st"
    obtain ⟨j, hj⟩ : ∃ j : Nat, (cnt + 1) % (cells.length : Int) = (j : Int) := ⟨((cnt + 1) % (cells.length : Int)).toNat, by have := Int.emod_nonneg (cnt + 1) (show (cells.length : Int) ≠ 0 by omega); omega⟩
    have hj2 : j < cells.length := by have := Int.emod_lt_of_pos (cnt + 1) (show (0 : Int) < (cells.length : Int) by omega); omega
    rw [hj]
    obtain ⟨c, hc⟩ : ∃ c, cells[j]? = some c := ⟨_, List.getElem?_eq_getElem hj2⟩
    refine i_ixL (j := j) (v := .int c) (.inl (.inl hC1)) (by rw [List.getElem?_map, hc]; rfl) ?_
    exact rest c j (hpos c (List.mem_of_getElem? hc)) (.inl ⟨j, rfl, hj2⟩)
  · refine i_itf (decide_eq_false (by rw [List.length_map]; omega)) ?_
    exact rest 0 (-1) (by omega) (.inr (by decide))
def sp_lone : Sp := fun vs H Q _ => ∃ (D C : Addr) (b : Nat), Dk H D C (b + 1) ∧
  ((∃ (p : Addr) (xs : List V), vs = [.ref D, .ref p] ∧ SqL K H p xs ∧ p ∉ [D, C] ∧ xs ≠ [] ∧ xs.length ≤ 1000 ∧ ∀ v ∈ xs, After K H D C b fun H' => Q v H') ∨
   ∃ z : Str, vs = [.ref D, .str z] ∧ tl z ≠ [] ∧ (tl z).length ≤ 1000 ∧ ∀ c ∈ tl z, After K H D C b fun H' => Q (signV c) H')
theorem ok_lone (T : Txt w K mg) : Cl P w K mg base CX0 2 "_law_one" ["_law_deck_here", "_law_items"] (sp_lone (K := K)) := by
  have c__law_draw := ok_ldraw (P := P) (base := base) T
  obtain ⟨fd, F⟩ := T.d__law_one
  refine ⟨_, fd, T.g__law_one, F.kp, (FunD.bindsN F (fun _ _ _ _ _ _ us hl => match us, hl with | [_, _], _ => rfl)), F.ok sc__law_one (fun vs H Q E h => ?len) (fun cdv A outer s H vs Q E hr h => ?run)⟩
  case len =>
    obtain ⟨D, C, b, _, ⟨p, xs, rfl, _⟩ | ⟨z, rfl, _⟩⟩ := h
    all_goals rfl
  refine ⟨_, PSs.nox (pss_one (ps_ret (pe_ix ix_seq (pv 1) (pcl c__law_draw (hr.mono (by omega)) (pa_cons (pv 0) (pa_cons (pe_callB call_lenX (by rfl) T.f_len (by decide +kernel) (pa_cons (pv 1) pa_nil)) pa_nil))) (fun _ _ => rfl)))), ?_⟩
  obtain ⟨D, C, b, hk, h⟩ := h
  rcases h with ⟨p, xs, rfl, hp, hn, hx, hl, k⟩ | ⟨z, rfl, hz, hl, k⟩
  · walk_at "st"
    refine i_lenL hp ?_
    walk_at "st"
    have h1 : 1 ≤ xs.length := by cases xs with | nil => exact absurd rfl hx | cons a r => simp
    refine ⟨D, C, b, _, rfl, by omega, by omega, hk, fun r hr0 hr G kG dG => ?_⟩
    obtain ⟨j, rfl⟩ : ∃ j : Nat, r = (j : Int) := ⟨r.toNat, by omega⟩
    obtain ⟨v, hv⟩ : ∃ v, xs[j]? = some v := ⟨_, List.getElem?_eq_getElem (by omega)⟩
    exact .inl (i_ixL (kG.seq hn hp) hv (k v (List.mem_of_getElem? hv) G kG dG))
  · have hzl : z.length = (tl z).length := len_tl z
    walk_at "st"
    refine i_lenS (by omega) ?_
    walk_at "st"
    have h1 : 1 ≤ (tl z).length := by cases e : tl z with | nil => exact absurd e hz | cons a r => simp
    refine ⟨D, C, b, _, rfl, by omega, by omega, hk, fun r hr0 hr G kG dG => ?_⟩
    obtain ⟨j, rfl⟩ : ∃ j : Nat, r = (j : Int) := ⟨r.toNat, by omega⟩
    obtain ⟨c, hc⟩ : ∃ c, (tl z)[j]? = some c := ⟨_, List.getElem?_eq_getElem (by omega)⟩
    exact .inr (.inr (i_ixS (by omega) hc (k c (List.mem_of_getElem? hc) G kG dG)))
def sp_ldeck : Sp := fun vs H Q _ => ∃ (p : Addr) (cells : List Int), vs = [.ref p] ∧ SqL K H p (cells.map V.int) ∧ ∀ H' D C, Same H H' → H D = none → H C = none → Dk H' D C 900000000 → Q (.ref D) H'
theorem ok_ldeck (T : Txt w K mg) : Cl P w K mg base CX0 1 "_law_deck" ["_law_script"] (sp_ldeck (K := K)) := by
  obtain ⟨fd, F⟩ := T.d__law_deck
  refine ⟨_, fd, T.g__law_deck, F.kp, (FunD.bindsN F (fun _ _ _ _ _ _ us hl => match us, hl with | [_], _ => rfl)), F.ok sc__law_deck (fun vs H Q E h => ?len) (fun cdv A outer s H vs Q E hr h => ?run)⟩
  case len =>
    obtain ⟨p, cells, rfl, _⟩ := h
    all_goals rfl
  refine ⟨_, PSs.nox (pss_one (ps_ret (pe_lst (pa_cons (pe_lc (own := [("_law_cell", 1)]) rfl sc__law_deck.nd (pi_list (pe_slice sl_list (pv 0) po_none (po_some pe_int))) (blkOk_by (own := [("_law_cell", 1)]) (N := N__law_deck) (sc := (defScope s__law_deck)) (by decide +kernel)) (fun _ _ _ _ _ => pg_name (i := 1) sc__law_deck.nd rfl (Or.inl rfl)) (fun _ _ _ _ _ => pts_nil) (fun _ _ _ _ _ => (pe_callB call_abs (by rfl) T.f_abs (by decide +kernel) (pa_cons (pv 1) pa_nil)))) (pa_cons pe_int pa_nil))))), ?_⟩
  obtain ⟨p, cells, rfl, hp, k⟩ := h
  walk_at "st"
  refine i_slL hp fun q hq => ?_
  have ec : cutV (cells.map V.int) none (some 63) = (cells.take 63).map V.int := by
    unfold cutV
    rw [HT.sIx_none, show (some (63 : Int)) = some ((63 : Nat) : Int) from rfl, HT.sIx_nat, List.drop_zero, Nat.sub_zero, List.length_map, List.map_take]
    by_cases h : 63 ≤ cells.length
    · rw [Nat.min_eq_left h]
    · rw [Nat.min_eq_right (by omega), List.take_of_length_le (by rw [List.length_map]; exact Nat.le_refl _), List.take_of_length_le (by rw [List.length_map]; omega)]
  rw [ec]
  have s1 := Same.new (o := .lst ((cells.take 63).map V.int)) hq
  have g1 : upd H q (.lst ((cells.take 63).map V.int)) q = some (.lst ((cells.take 63).map V.int)) := upd_same
  generalize upd H q (.lst ((cells.take 63).map V.int)) = G1 at s1 g1 ⊢
  walk_at "st"
  refine ⟨q, rfl, ⟨_, .inl (.inl g1)⟩, fun C hC => ?_⟩
  refine lc_it (walk_list (xs := (cells.take 63).map V.int)) (fun j G => Same G1 G ∧ ∃ ns : List Int, G C = some (.lst (ns.map V.int)) ∧ ns.length = j ∧ ∀ n ∈ ns, 0 ≤ n) ⟨Same.new hC, [], upd_same, rfl, by simp⟩ (fun j G _ h => .inl (.inl (h.1 _ _ g1))) ?_ ?_
  · rintro j x G G' hj ⟨sG, ns, gC, hn, hpos⟩ ⟨rfl, hx⟩
    rw [List.getElem?_map] at hx
    rw [List.length_map, List.length_take] at hj
    cases hc : (cells.take 63)[j]? with
    | none => rw [hc] at hx; cases hx
    | some c =>
    rw [hc] at hx
    cases hx
    walk_at "st"
    refine ⟨rfl, ?_⟩
    walk_at "st"
    refine i_ite rfl ?_
    walk_at "st"
    refine ⟨c, rfl, _, gC, szl (by rw [List.length_map]; omega), Same.mut sG hC, ns ++ [if c < 0 then -c else c], by rw [upd_same, List.map_append]; rfl, by simp [hn], ?_⟩
    intro n hn2
    rcases List.mem_append.mp hn2 with hn2 | hn2
    · exact hpos n hn2
    · rw [List.mem_singleton] at hn2; subst hn2; split <;> omega
  · rintro G ⟨sG, ns, gC, hn, hpos⟩
    rw [List.length_map, List.length_take] at hn
    walk_at "st"
    refine i_new (by simp) fun D hD => ?_
    have hCD : C ≠ D := ne_of_none gC hD
    refine k _ D C (Same.grow (Same.trans s1 sG) hD) ((Same.trans s1 sG).free hD) (s1.free hC) ⟨hCD.symm, ns, 0, upd_same, by rw [upd_ne hCD]; exact gC, hpos, by omega, by omega, by omega⟩
end
end K04
/-! text F2 -/
set_option Elab.async false
set_option linter.all false
set_option maxRecDepth 100000
set_option maxHeartbeats 4000000
namespace K04
open PySem PySem.Spec PyProof.Rows L2 TL
local macro_rules
  | `(tactic| walk_at "st") => `(tactic| repeat (with_reducible first
    | refine i_seq ?_ | refine i_ret ?_ | refine i_asg ?_ | refine i_name ?_ | refine i_ifs ?_ | refine i_test ?_ | refine i_B ?_ | refine i_bl ?_ | refine i_var (by with_unfolding_all rfl) ?_ | refine i_c ?_
    | refine i_op ?_ | refine i_un ?_ | refine i_cb ?_ | refine i_cons ?_ | refine i_nil ?_ | refine i_call ?_ | refine i_and ?_ | refine i_or ?_ | refine i_not ?_ | refine i_andV ?_ | refine i_orV ?_ | refine i_notV ?_ | refine i_if ?_
    | refine i_tup ?_ | refine i_lst ?_ | refine i_sl ?_ | refine i_nopart ?_ | refine i_part ?_ | refine i_int ?_ | refine i_chain ?_ | refine i_I0 ?_ | refine i_par ?_ | refine i_two ?_ | refine i_bm ?_ | refine i_bm0 ?_ | refine i_m1 ?_ | refine i_tyS ?_ | refine i_str ?_
    | refine i_for ?_ | refine i_iTup ?_ | refine i_iList ?_ | refine i_iStr ?_ | refine i_iRng1 ?_ | refine i_iRng2 ?_ | refine i_iEnum ?_ | refine i_lc ?_ | refine i_yes ?_ | refine i_revL ?_ | refine i_fld ?_ | refine i_sfld ?_ | refine i_meth ?_ | refine i_make ?_ | refine i_isN ?_ | refine i_neg ?_ | refine i_notN ?_ | refine i_intB ?_ | refine i_intI ?_
    | refine i_next ?_ | refine i_drop ?_ | refine i_retN ?_ | refine i_gsub ?_ | refine i_ipI ?_ | refine i_aug (by with_unfolding_all rfl) ?_
    | refine i_eq (by with_unfolding_all rfl) ?_ | refine i_ne (by with_unfolding_all rfl) ?_))
abbrev N__law_expr : List Str := ["_law_deck_here", "_law_names_here", "_law_deep", "_law_way", "_law_numbers"]
theorem sc__law_expr : FnScope N__law_expr ["_law_deck_here", "_law_names_here", "_law_deep"] (defScope s__law_expr) := ⟨rfl, rfl, rfl, by decide +kernel, rfl, by decide +kernel, by decide +kernel⟩
abbrev N__law_test : List Str := ["_law_deck_here", "_law_names_here", "_law_sort", "_law_left", "_law_by", "_law_test_here", "_law_k"]
theorem sc__law_test : FnScope N__law_test ["_law_deck_here", "_law_names_here", "_law_sort"] (defScope s__law_test) := ⟨rfl, rfl, rfl, by decide +kernel, rfl, by decide +kernel, by decide +kernel⟩
section
variable {P : Program} {w : World} {K : PySem.W.Frag} {mg : Str → Option Value} {base : Heap}
structure Nms (K : PySem.W.Frag) (H : Hp) (D C N : Addr) : Prop where
  at_ : ∃ ns : List Str, H N = some (.lst (ns.map V.str)) ∧ ns ≠ [] ∧ ns.length ≤ 100 ∧ ∀ n ∈ ns, nameOk (tl n) = true
  out : N ∉ [D, C]
theorem Nms.kp {H H' : Hp} {D C N : Addr} (h : Nms K H D C N) (k : Kp [D, C] H H') : Nms K H' D C N := by
  obtain ⟨⟨ns, a, b, c, d⟩, e⟩ := h
  exact ⟨⟨ns, k _ _ e a, b, c, d⟩, e⟩
def cE : Nat → Nat
  | 0 => 0
  | n + 1 => 4 + 2 * cE n
def sp_lexpr (n : Nat) : Sp := fun vs H Q _ => ∃ (D C N : Addr) (b : Nat), vs = [.ref D, .ref N, .int (n : Int)] ∧ Dk H D C (b + cE n) ∧ Nms K H D C N ∧ ∀ v e, Ex.ok n e = true → After K H D C b fun H' => Dp K H' v e.py → Q v H'
theorem Dk.tk {H H' : Hp} {D C : Addr} {b : Nat} (h : Dk H D C b) (k : Kp [D, C] H H') : TK H H' := k.tk h.lists
def sp_lexprA (m : Nat) : Sp := fun vs H Q E => ∃ n, 1 ≤ n ∧ n ≤ m ∧ sp_lexpr (K := K) n vs H Q E
theorem ok_lexpr0 (T : Txt w K mg) (m : Nat) (c__law_expr : Cl P w K mg base CX0 (m + 3) "_law_expr" ["_law_deck_here", "_law_names_here", "_law_deep"] (sp_lexprA (K := K) m)) :
    Cl P w K mg base CX0 (m + 4) "_law_expr" ["_law_deck_here", "_law_names_here", "_law_deep"] (sp_lexprA (K := K) (m + 1)) := by
  have c__law_draw := ok_ldraw (P := P) (base := base) T
  have c__law_one := ok_lone (P := P) (base := base) T
  obtain ⟨fd, F⟩ := T.d__law_expr
  refine ⟨_, fd, T.g__law_expr, F.kp, (FunD.bindsN F (fun _ _ _ _ _ _ us hl => match us, hl with | [_, _, _], _ => rfl)), F.ok sc__law_expr (fun vs H Q E h => ?len) (fun cdv A outer s H vs Q E hr h => ?run)⟩
  case len =>
    obtain ⟨_, _, _, D, C, N, b, rfl, _⟩ := h
    all_goals rfl
  refine ⟨_, PSs.nox (pss_cons (ps_set (i := 3) sc__law_expr.nd rfl (by first | exact Or.inl rfl | exact Or.inr rfl) (pcl c__law_draw (hr.mono (by omega)) (pa_cons (pv 0) (pa_cons pe_int pa_nil))))
      (pss_cons (ps_if (PW.pt (pw_or (pt_cmpR op_eq (pv 2) pe_int (nomark _)) (pw_or1 (pt_cmpR op_lt (pv 3) pe_int (nomark _))))) (pss_cons (ps_set (i := 4) sc__law_expr.nd rfl (by first | exact Or.inl rfl | exact Or.inr rfl) (pe_lst (pa_cons pe_int (pa_cons pe_int (pa_cons (pe_un un_neg pe_int) (pa_cons pe_int (pa_cons pe_int (pa_cons (pe_un un_neg pe_int) (pa_cons (pe_op op_sub (pcl c__law_draw (hr.mono (by omega)) (pa_cons (pv 0) (pa_cons pe_int pa_nil))) pe_int) pa_nil)))))))))
      (pss_one (ps_ret (pe_ifExp (pt_cmpR op_lt (pv 3) pe_int (nomark _)) (pcl c__law_one (hr.mono (by omega)) (pa_cons (pv 0) (pa_cons (pv 1) pa_nil))) (pcl c__law_one (hr.mono (by omega)) (pa_cons (pv 0) (pa_cons (pv 4) pa_nil))))))) pss_nil)
      (pss_cons (ps_if (pt_cmpR op_eq (pv 3) pe_int (nomark _)) (pss_one (ps_ret (pe_tup (pa_cons pe_str (pa_cons (pe_op op_sub (pcl c__law_draw (hr.mono (by omega)) (pa_cons (pv 0) (pa_cons pe_int pa_nil))) pe_int) (pa_cons (pcl c__law_expr (hr.mono (by omega)) (pa_cons (pv 0) (pa_cons (pv 1) (pa_cons (pe_op op_sub (pv 2) pe_int) pa_nil)))) pa_nil)))))) pss_nil)
      (pss_one (ps_ret (pe_tup (pa_cons (pcl c__law_one (hr.mono (by omega)) (pa_cons (pv 0) (pa_cons (pe_lst (pa_cons pe_str (pa_cons pe_str pa_nil))) pa_nil))) (pa_cons (pcl c__law_expr (hr.mono (by omega)) (pa_cons (pv 0) (pa_cons (pv 1) (pa_cons (pe_op op_sub (pv 2) pe_int) pa_nil)))) (pa_cons (pcl c__law_expr (hr.mono (by omega)) (pa_cons (pv 0) (pa_cons (pv 1) (pa_cons (pe_op op_sub (pv 2) pe_int) pa_nil)))) pa_nil))))))))), ?_⟩
  obtain ⟨n0, hn0, hn0m, D, C, N, b, rfl, hk, hN, k⟩ := h
  obtain ⟨n, rfl⟩ : ∃ n, n0 = n + 1 := ⟨n0 - 1, by omega⟩
  have hk : Dk H D C (b + (4 + 2 * cE n)) := hk
  walk_at "st"
  refine ⟨D, C, b + 3 + 2 * cE n, 6, rfl, by omega, by omega, hk.less (by omega), fun r hr0 hr6 G1 k1 d1 => ?_⟩
  walk_at "st"
  have hN1 := hN.kp k1
  by_cases hleaf : n = 0 ∨ r < 2
  · refine i_common1 (fun hc kA => ?_) ?_
    · walk_at "st"
      have : r < 2 := by
        rcases hleaf with h | h
        · subst h; cases hc
        · exact h
      rw [decide_eq_true this]
      exact kA
    refine i_ite rfl ?_
    walk_at "st"
    refine ⟨D, C, b + 1, 199, rfl, by omega, by omega, d1.less (by omega), fun z hz0 hz9 G2 k2 d2 => ?_⟩
    walk_at "st"
    refine i_new (by simp) fun q hq => ?_
    walk_at "st"
    have s3 := Same.new (o := .lst [.int 0, .int 1, .int (-1), .int 2, .int 99, .int (-99), .int (z - 99)]) hq
    have d3 := d2.same s3
    have k3 : Kp [D, C] H (upd G2 q (.lst [.int 0, .int 1, .int (-1), .int 2, .int 99, .int (-99), .int (z - 99)])) := Kp.trans k1 (Kp.trans k2 (Kp.of s3))
    have gq : upd G2 q (.lst [.int 0, .int 1, .int (-1), .int 2, .int 99, .int (-99), .int (z - 99)]) q = some (.lst [.int 0, .int 1, .int (-1), .int 2, .int 99, .int (-99), .int (z - 99)]) := upd_same
    have nq := d2.fresh hq
    generalize upd G2 q (.lst [.int 0, .int 1, .int (-1), .int 2, .int 99, .int (-99), .int (z - 99)]) = G3 at d3 k3 gq ⊢
    have hN3 := hN.kp k3
    by_cases h4 : r < 4
    · refine i_ite (decide_eq_true h4) ?_
      walk_at "st"
      obtain ⟨⟨ns, n1, n2, n3, n4⟩, n5⟩ := hN3
      refine ⟨D, C, b, d3, .inl ⟨N, _, rfl, .inl (.inl n1), n5, by simpa using n2, by rw [List.length_map]; omega, fun v hv G4 k4 d4 => ?_⟩⟩
      obtain ⟨x, hx, rfl⟩ := List.mem_map.mp hv
      exact k _ (.nam x) (n4 x hx) _ (Kp.trans k3 k4) d4 (.str x)
    · refine i_itf (decide_eq_false h4) ?_
      walk_at "st"
      refine ⟨D, C, b, d3, .inl ⟨q, _, rfl, .inl (.inl gq), nq, by simp, by simp, fun v hv G4 k4 d4 => ?_⟩⟩
      have hvi : ∃ i : Int, v = .int i ∧ -99 ≤ i ∧ i ≤ 99 := by
        simp only [List.mem_cons, List.not_mem_nil, or_false] at hv
        rcases hv with rfl | rfl | rfl | rfl | rfl | rfl | rfl
        · exact ⟨_, rfl, by omega, by omega⟩
        · exact ⟨_, rfl, by omega, by omega⟩
        · exact ⟨_, rfl, by omega, by omega⟩
        · exact ⟨_, rfl, by omega, by omega⟩
        · exact ⟨_, rfl, by omega, by omega⟩
        · exact ⟨_, rfl, by omega, by omega⟩
        · exact ⟨_, rfl, by omega, by omega⟩
      obtain ⟨i, rfl, i1, i2⟩ := hvi
      exact k _ (.num i) (num_ok n i1 i2) _ (Kp.trans k3 k4) d4 (.int i)
  · have hn1 : 1 ≤ n := by omega
    have hr2 : ¬ r < 2 := fun z => hleaf (.inr z)
    refine i_itf (decide_eq_false (fun z => hleaf (.inl (by have := V.int.inj z; omega)))) ?_
    walk_at "st"
    refine i_itf (decide_eq_false hr2) ?_
    walk_at "st"
    by_cases h2 : r = 2
    · refine i_ite (decide_eq_true (by rw [h2])) ?_
      walk_at "st"
      refine ⟨D, C, b + 2 + 2 * cE n, 19, rfl, by omega, by omega, d1.less (by omega), fun z hz0 hz9 G2 k2 d2 => ?_⟩
      walk_at "st"
      rw [dec1]
      refine ⟨n, hn1, by omega, D, C, N, b + 2 + cE n, rfl, d2.less (by omega), hN.kp (Kp.trans k1 k2), fun v e he G3 k3 d3 dv => ?_⟩
      walk_at "st"
      refine i_new (by simp) fun q hq => ?_
      have s4 := Same.new (o := .tup [.str "times", .int (z - 9), v]) hq
      refine k _ (.bin .times (.num (z - 9)) e) ?_ _ (Kp.trans k1 (Kp.trans k2 (Kp.trans k3 (Kp.of s4)))) ((d3.same s4).less (by omega)) (dp_of3 upd_same (.str _) (.int _) (dp_mono s4 dv))
      simp only [Ex.ok, Bool.and_eq_true, decide_eq_true_eq]
      exact ⟨by omega, he⟩
    · refine i_itf (decide_eq_false (fun z => h2 (by have := V.int.inj z; omega))) ?_
      walk_at "st"
      refine i_new (by simp) fun q hq => ?_
      walk_at "st"
      have s2 := Same.new (o := .lst [.str "plus", .str "minus"]) hq
      refine ⟨D, C, b + 2 + 2 * cE n, (d1.same s2).less (by omega), .inl ⟨q, _, rfl, .inl (.inl upd_same), d1.fresh hq, by simp, by simp, fun v hv G3 k3 d3 => ?_⟩⟩
      obtain ⟨o, rfl, ho⟩ : ∃ o : Op3, v = .str o.word ∧ o ≠ .times := by
        simp only [List.mem_cons, List.not_mem_nil, or_false] at hv
        rcases hv with rfl | rfl
        · exact ⟨.plus, rfl, by decide⟩
        · exact ⟨.minus, rfl, by decide⟩
      have k13 := Kp.trans k1 (Kp.trans (Kp.of s2) k3)
      walk_at "st"
      rw [dec1]
      refine ⟨n, hn1, by omega, D, C, N, b + 2 + cE n, rfl, d3.less (by omega), hN.kp k13, fun v1 e1 he1 G4 k4 d4 dv1 => ?_⟩
      walk_at "st"
      rw [dec1]
      refine ⟨n, hn1, by omega, D, C, N, b + 2, rfl, d4.less (by omega), hN.kp (Kp.trans k13 k4), fun v2 e2 he2 G5 k5 d5 dv2 => ?_⟩
      walk_at "st"
      refine i_new (by simp) fun p hp => ?_
      have s6 := Same.new (o := .tup [.str o.word, v1, v2]) hp
      refine k _ (.bin o e1 e2) ?_ _ (Kp.trans k13 (Kp.trans k4 (Kp.trans k5 (Kp.of s6)))) ((d5.same s6).less (by omega)) (dp_of3 upd_same (.str _) (dp_mono s6 (dp_tk (d4.tk k5) (noL_ex _) dv1)) (dp_mono s6 dv2))
      cases o with
      | times => exact absurd rfl ho
      | plus => simp only [Ex.ok, Bool.and_eq_true]; exact ⟨he1, he2⟩
      | minus => simp only [Ex.ok, Bool.and_eq_true]; exact ⟨he1, he2⟩
theorem ok_lexpr (T : Txt w K mg) : ∀ m : Nat, Cl P w K mg base CX0 (m + 3) "_law_expr" ["_law_deck_here", "_law_names_here", "_law_deep"] (sp_lexprA (K := K) m)
| 0 => by
  refine Cl.up (j := 1) ?_ (by omega)
  obtain ⟨fd, F⟩ := T.d__law_expr
  exact ⟨_, fd, T.g__law_expr, F.kp, (FunD.bindsN F (fun _ _ _ _ _ _ us hl => match us, hl with | [_, _, _], _ => rfl)), F.ok sc__law_expr (fun vs H Q E h => ((show False by obtain ⟨n, e, f, _⟩ := h; omega)).elim) (fun cdv A outer s H vs Q E hr h => ((show False by obtain ⟨n, e, f, _⟩ := h; omega)).elim)⟩
| m + 1 => ok_lexpr0 T m (ok_lexpr T m)
theorem ex_mono : ∀ (e : Ex) (n : Nat), e.ok n = true → e.ok (n + 1) = true
  | _, 0, h => by simp [Ex.ok] at h
  | .num i, n + 1, h => h
  | .nam x, n + 1, h => h
  | .bin o a b, n + 1, h => by
    obtain ⟨hb, ha⟩ := bin_ok h
    have hb2 := ex_mono b n hb
    rcases ha with ⟨ho, ha⟩ | ⟨f, rfl, rfl, f1, f2⟩
    · have ha2 := ex_mono a n ha
      cases o with
      | times => exact absurd rfl ho
      | plus => (show (a.ok (n + 1) && b.ok (n + 1)) = true); rw [ha2, hb2]; rfl
      | minus => (show (a.ok (n + 1) && b.ok (n + 1)) = true); rw [ha2, hb2]; rfl
    · show (decide (-9 ≤ f ∧ f ≤ 9) && b.ok (n + 1)) = true
      rw [decide_eq_true ⟨f1, f2⟩, hb2]; rfl
theorem ex_to3 {e : Ex} {n : Nat} (h : e.ok n = true) (hn : n ≤ 3) : e.ok 3 = true := by
  match n, hn, h with
  | 3, _, h => exact h
  | 2, _, h => exact ex_mono _ _ h
  | 1, _, h => exact ex_mono _ _ (ex_mono _ _ h)
  | 0, _, h => simp [Ex.ok] at h
/-! _law_test -/
def isSort (sort : Int) : Srt := if sort = 2 then .rest else .less
theorem te_mono : ∀ (t : Te) (n : Nat), t.ok n = true → t.ok (n + 1) = true
  | .less a b, n, h => by simpa [Te.ok] using h
  | .rest e q r, n, h => by simpa [Te.ok] using h
  | .no t, 0, h => by simp [Te.ok] at h
  | .no t, n + 1, h => te_mono t n h
theorem wrap_ok : ∀ (j : Nat) (t : Te), t.ok 0 = true → (wrap j t).ok j = true
  | 0, t, h => h
  | j + 1, t, h => wrap_ok j t h
theorem wrap_to2 {j : Nat} {t : Te} (h : t.ok 0 = true) (hj : j ≤ 2) : (wrap j t).ok 2 = true := by
  have := wrap_ok j t h
  match j, hj, this with
  | 2, _, h => exact h
  | 1, _, h => exact te_mono _ _ h
  | 0, _, h => exact te_mono _ _ (te_mono _ _ h)
theorem wrap_is : ∀ (j : Nat) (t : Te), (wrap j t).bare = t.bare
  | 0, t => rfl
  | j + 1, t => wrap_is j t
def cT : Nat := 2 * cE 3 + 5
def sp_ltest : Sp := fun vs H Q _ => ∃ (D C N : Addr) (b : Nat) (sort : Int), vs = [.ref D, .ref N, .int sort] ∧ Dk H D C (b + cT) ∧ Nms K H D C N ∧ ∀ v t, Te.ok 2 t = true → t.bare.is (isSort sort) = true → (∀ q, t.bare.is q = true → q = isSort sort) → After K H D C b fun H' => Dp K H' v t.py → Q v H'
theorem ok_ltest (T : Txt w K mg) : Cl P w K mg base CX0 7 "_law_test" ["_law_deck_here", "_law_names_here", "_law_sort"] (sp_ltest (K := K)) := by
  have c__law_draw := ok_ldraw (P := P) (base := base) T
  have c__law_one := ok_lone (P := P) (base := base) T
  have c__law_expr := ok_lexpr (P := P) (base := base) T 3
  obtain ⟨fd, F⟩ := T.d__law_test
  refine ⟨_, fd, T.g__law_test, F.kp, (FunD.bindsN F (fun _ _ _ _ _ _ us hl => match us, hl with | [_, _, _], _ => rfl)), F.ok sc__law_test (fun vs H Q E h => ?len) (fun cdv A outer s H vs Q E hr h => ?run)⟩
  case len =>
    obtain ⟨D, C, N, b, sort, rfl, _⟩ := h
    all_goals rfl
  refine ⟨_, PSs.nox (pss_cons (ps_par (i := 3) (j := 4) (by rfl) sc__law_test.nd rfl rfl (by decide) rfl rfl (pa_cons (pcl c__law_expr (hr.mono (by omega)) (pa_cons (pv 0) (pa_cons (pv 1) (pa_cons (pe_op op_add pe_int (pcl c__law_draw (hr.mono (by omega)) (pa_cons (pv 0) (pa_cons pe_int pa_nil)))) pa_nil)))) (pa_cons (pe_op op_add pe_int (pcl c__law_draw (hr.mono (by omega)) (pa_cons (pv 0) (pa_cons pe_int pa_nil)))) pa_nil)) (by rfl))
      (pss_cons (ps_if (pt_cmpR op_eq (pv 2) pe_int (nomark _)) (pss_one (ps_set (i := 5) sc__law_test.nd rfl (by first | exact Or.inl rfl | exact Or.inr rfl) (pe_tup (pa_cons pe_str (pa_cons (pv 3) (pa_cons (pv 4) (pa_cons (pcl c__law_draw (hr.mono (by omega)) (pa_cons (pv 0) (pa_cons (pv 4) pa_nil))) pa_nil))))))) (pss_one (ps_set (i := 5) sc__law_test.nd rfl (by first | exact Or.inl rfl | exact Or.inr rfl) (pe_tup (pa_cons pe_str (pa_cons (pv 3) (pa_cons (pcl c__law_expr (hr.mono (by omega)) (pa_cons (pv 0) (pa_cons (pv 1) (pa_cons (pe_op op_add pe_int (pcl c__law_draw (hr.mono (by omega)) (pa_cons (pv 0) (pa_cons pe_int pa_nil)))) pa_nil)))) pa_nil)))))))
      (pss_cons (ps_for PassesOwn.never rfl (pi_range1 rfl T.f_range (pa_cons (pcl c__law_one (hr.mono (by omega)) (pa_cons (pv 0) (pa_cons (pe_lst (pa_cons pe_int (pa_cons pe_int (pa_cons pe_int (pa_cons pe_int pa_nil))))) pa_nil))) pa_nil)) (pg_name (i := 6) sc__law_test.nd rfl (by first | exact Or.inl rfl | exact Or.inr rfl)) (pss_one (ps_set (i := 5) sc__law_test.nd rfl (by first | exact Or.inl rfl | exact Or.inr rfl) (pe_tup (pa_cons pe_str (pa_cons (pv 5) pa_nil))))))
      (pss_one (ps_ret (pv 5)))))), ?_⟩
  obtain ⟨D, C, N, b, sort, rfl, hk, hN, k⟩ := h
  have hk : Dk H D C (b + 61) := hk
  have cle : ∀ n, n ≤ 3 → cE n ≤ 28 := fun n hn => by
    match n, hn with
    | 0, _ => decide
    | 1, _ => decide
    | 2, _ => decide
    | 3, _ => decide
  walk_at "st"
  refine ⟨D, C, b + 60, 3, rfl, by omega, by omega, hk.less (by omega), fun r hr0 hr3 G1 k1 d1 => ?_⟩
  walk_at "st"
  obtain ⟨n1, hn1⟩ : ∃ n1 : Nat, 1 + r = (n1 : Int) := ⟨(1 + r).toNat, by omega⟩
  have c1 := cle n1 (by omega)
  rw [hn1]
  refine ⟨n1, by omega, by omega, D, C, N, b + 32, rfl, d1.less (by omega), hN.kp k1, fun v1 e1 he1 G2 k2 d2 dv1 => ?_⟩
  walk_at "st"
  refine ⟨D, C, b + 31, 5, rfl, by omega, by omega, d2.less (by omega), fun z hz0 hz5 G3 k3 d3 => ?_⟩
  walk_at "st"
  have k13 := Kp.trans k1 (Kp.trans k2 k3)
  have dv1' := dp_tk (d2.tk k3) (noL_ex _) dv1
  have oe1 := ex_to3 he1 (by omega)
  -- the nots
  have rest : ∀ (G : Hp) (v : V) (t : Te), Kp [D, C] H G → Dk G D C (b + 1) → Dp K G v t.py → t.ok 0 = true → t.bare.is (isSort sort) = true → (∀ q, t.bare.is q = true → q = isSort sort) →
      tSeq (tFor (iRng1 (tCons (tCall (sp_lone (K := K)) [] E0 (tCons (tVar 0) (tCons (tLst (tCons (tC (.int 0)) (tCons (tC (.int 0)) (tCons (tC (.int 1)) (tCons (tC (.int 2)) tNil))))) tNil))) tNil)) (gName 6) (tAsg (tTup (tCons (tC (.str "not")) (tCons (tVar 5) tNil))) (gName 5))) (tRet (tVar 5))
        { nx := fun _ H' => Q .non H', rt := Q } [some (.ref D), some (.ref N), some (.int sort), some v1, some (.int (2 + z)), some v, none] G := by
    intro G v t kG dG dv ot hb hq
    walk_at "st"
    refine i_new (by simp) fun q hq0 => ?_
    walk_at "st"
    have s4 := Same.new (o := .lst [.int 0, .int 0, .int 1, .int 2]) hq0
    refine ⟨D, C, b, dG.same s4, .inl ⟨q, _, rfl, .inl (.inl upd_same), dG.fresh hq0, by simp, by simp, fun u hu G5 k5 d5 => ?_⟩⟩
    obtain ⟨j, rfl, hj⟩ : ∃ j : Nat, u = .int (j : Int) ∧ j ≤ 2 := by
      simp only [List.mem_cons, List.not_mem_nil, or_false] at hu
      rcases hu with rfl | rfl | rfl | rfl
      · exact ⟨0, rfl, by omega⟩
      · exact ⟨0, rfl, by omega⟩
      · exact ⟨1, rfl, by omega⟩
      · exact ⟨2, rfl, by omega⟩
    have kG5 : Kp [D, C] G G5 := Kp.trans (Kp.of s4) k5
    have dv5 := dp_tk (dG.tk kG5) (noL_te _) dv
    walk_at "st"
    refine ⟨_, rfl, by omega, by omega, ?_⟩
    refine for_it (walk_range (lo := 0) (n := (j : Int).toNat)) (fun i τ GG => ∃ u x, τ = [some (.ref D), some (.ref N), some (.int sort), some v1, some (.int (2 + z)), some u, x] ∧ Same G5 GG ∧ Dp K GG u (wrap i t).py) ⟨_, _, rfl, Same.refl _, dv5⟩ (fun _ _ _ _ _ => trivial) ?_ ?_
    · rintro i x τ GG G' hi ⟨u', x', rfl, sG, hu'⟩ ⟨rfl, rfl⟩
      walk_at "st"
      refine i_new (by simp) fun q hq => ?_
      walk_at "st"
      exact ⟨_, _, rfl, Same.grow sG hq, dp_of2 upd_same (.str _) (dp_mono (Same.new hq) hu')⟩
    · rintro τ GG ⟨u', x', rfl, sG, hu'⟩
      walk_at "st"
      exact k _ (wrap j t) (wrap_to2 ot hj) (by rw [wrap_is]; exact hb) (fun q => by rw [wrap_is]; exact hq q) _ (Kp.trans kG (Kp.trans kG5 (Kp.of sG))) (d5.same sG) hu'
  by_cases h2 : sort = 2
  · refine i_ite (decide_eq_true (by rw [h2])) ?_
    walk_at "st"
    refine ⟨D, C, b + 1, 2 + z, rfl, by omega, by omega, d3.less (by omega), fun y hy0 hy G4 k4 d4 => ?_⟩
    walk_at "st"
    refine i_new (by simp) fun q hq => ?_
    have s5 := Same.new (o := .tup [.str "rest", v1, .int (2 + z), .int y]) hq
    refine rest _ _ (.rest e1 (2 + z) y) (Kp.trans k13 (Kp.trans k4 (Kp.of s5))) ((d4.same s5).less (by omega)) (dp_of4 upd_same (.str _) (dp_mono s5 (dp_tk (d3.tk k4) (noL_ex _) dv1')) (.int _) (.int _)) ?_ ?_ ?_
    · simp only [Te.ok, Bool.and_eq_true, decide_eq_true_eq]
      exact ⟨⟨oe1, by omega, by omega⟩, by omega, by omega⟩
    · unfold isSort; rw [if_pos h2]; rfl
    · intro q hq; unfold isSort; rw [if_pos h2]; exact eq_of_beq hq
  · refine i_itf (decide_eq_false (fun z => h2 (V.int.inj z))) ?_
    walk_at "st"
    refine ⟨D, C, b + 30, 2, rfl, by omega, by omega, d3.less (by omega), fun y hy0 hy G4 k4 d4 => ?_⟩
    walk_at "st"
    obtain ⟨n2, hn2⟩ : ∃ n2 : Nat, 1 + y = (n2 : Int) := ⟨(1 + y).toNat, by omega⟩
    have c2 := cle n2 (by omega)
    rw [hn2]
    refine ⟨n2, by omega, by omega, D, C, N, b + 1, rfl, d4.less (by omega), hN.kp (Kp.trans k13 k4), fun v2 e2 he2 G5 k5 d5 dv2 => ?_⟩
    walk_at "st"
    refine i_new (by simp) fun q hq => ?_
    have s6 := Same.new (o := .tup [.str "less", v1, v2]) hq
    have k45 := Kp.trans k4 k5
    refine rest _ _ (.less e1 e2) (Kp.trans k13 (Kp.trans k45 (Kp.of s6))) ((d5.same s6).less (by omega)) (dp_of3 upd_same (.str _) (dp_mono s6 (dp_tk (d3.tk k45) (noL_ex _) dv1')) (dp_mono s6 dv2)) ?_ ?_ ?_
    · simp only [Te.ok, Bool.and_eq_true]
      exact ⟨oe1, ex_to3 he2 (by omega)⟩
    · unfold isSort; rw [if_neg h2]; rfl
    · intro q hq; unfold isSort; rw [if_neg h2]; exact eq_of_beq hq
end
end K04
/-! text F3 -/
set_option Elab.async false
set_option linter.all false
set_option maxRecDepth 100000
set_option maxHeartbeats 4000000
namespace K04
open PySem PySem.Spec PyProof.Rows L2 TL
local macro_rules
  | `(tactic| walk_at "st") => `(tactic| repeat (with_reducible first
    | refine i_seq ?_ | refine i_ret ?_ | refine i_asg ?_ | refine i_name ?_ | refine i_ifs ?_ | refine i_test ?_ | refine i_B ?_ | refine i_bl ?_ | refine i_var (by with_unfolding_all rfl) ?_ | refine i_c ?_
    | refine i_op ?_ | refine i_un ?_ | refine i_cb ?_ | refine i_cons ?_ | refine i_nil ?_ | refine i_call ?_ | refine i_and ?_ | refine i_or ?_ | refine i_not ?_ | refine i_andV ?_ | refine i_orV ?_ | refine i_notV ?_ | refine i_if ?_
    | refine i_tup ?_ | refine i_lst ?_ | refine i_sl ?_ | refine i_nopart ?_ | refine i_part ?_ | refine i_int ?_ | refine i_chain ?_ | refine i_I0 ?_ | refine i_par ?_ | refine i_two ?_ | refine i_bm ?_ | refine i_bm0 ?_ | refine i_m1 ?_ | refine i_tyS ?_ | refine i_str ?_
    | refine i_for ?_ | refine i_iTup ?_ | refine i_iList ?_ | refine i_iStr ?_ | refine i_iRng1 ?_ | refine i_iRng2 ?_ | refine i_iEnum ?_ | refine i_lc ?_ | refine i_yes ?_ | refine i_revL ?_ | refine i_fld ?_ | refine i_sfld ?_ | refine i_meth ?_ | refine i_make ?_ | refine i_isN ?_ | refine i_neg ?_ | refine i_notN ?_ | refine i_intB ?_ | refine i_intI ?_
    | refine i_next ?_ | refine i_drop ?_ | refine i_retN ?_ | refine i_gsub ?_ | refine i_ipI ?_ | refine i_aug (by with_unfolding_all rfl) ?_
    | refine i_eq (by with_unfolding_all rfl) ?_ | refine i_ne (by with_unfolding_all rfl) ?_))
abbrev N__law_names : List Str := ["_law_deck_here", "_law_many", "_law_letters", "_law_found", "_law_size", "_law_left", "_law_k", "_law_right", "_law_word"]
theorem sc__law_names : FnScope N__law_names ["_law_deck_here", "_law_many"] (defScope s__law_names) := ⟨rfl, rfl, rfl, by decide +kernel, rfl, by decide +kernel, by decide +kernel⟩
section
variable {P : Program} {w : World} {K : PySem.W.Frag} {mg : Str → Option Value} {base : Heap}
theorem joinL_one : ∀ l : List Nat, joinL [] (l.map fun c => [c]) = l
  | [] => rfl
  | [a] => rfl
  | a :: b :: r => by
    have := joinL_one (b :: r)
    show [a] ++ ([] ++ joinL [] ((b :: r).map fun c => [c])) = _
    rw [this]; rfl
theorem join_signs (l : List Nat) : Txt.join "" (l.map fun c => (⟨#[c]⟩ : Str)) = mk l := by
  refine ext_tl ?_
  rw [join_eq, tl_join]
  have e : tl "" = [] := by decide +kernel
  rw [e, List.map_map, tl_mk' l]
  exact joinL_one l
theorem signs_strs (l : List Nat) : l.map signV = (l.map fun c => (⟨#[c]⟩ : Str)).map V.str := by rw [List.map_map]; rfl
theorem sum_signs (l : List Nat) : ((l.map fun c => (⟨#[c]⟩ : Str)).map (·.length)).sum = l.length := by
  induction l with
  | nil => rfl
  | cons a r ih => rw [List.map_cons, List.map_cons, List.sum_cons, ih, List.length_cons]; show 1 + _ = _; omega
theorem spec_not : kept.all (fun k => k.all fun c => !decide (c ∈ cs "qxzkj")) = true := by decide +kernel
theorem spec_let : (cs "qxzkj").all (fun c => decide (c ∈ letters)) = true := by decide +kernel
theorem made_ok {a r : List Nat} {c : Nat} (ha : ∀ x ∈ a, x ∈ letters) (hc : c ∈ cs "qxzkj") (hr : ∀ x ∈ r, x ∈ letters ++ figs) (hl : (a ++ c :: r).length ≤ 8) : nameOk (a ++ c :: r) = true := by
  have hcl : c ∈ letters := of_decide_eq_true (List.all_eq_true.mp spec_let c hc)
  have hall : ∀ x ∈ a ++ c :: r, x ∈ letters ++ figs := by
    intro x hx
    rcases List.mem_append.mp hx with hx | hx
    · exact List.mem_append_left _ (ha x hx)
    · rcases List.mem_cons.mp hx with rfl | hx
      · exact List.mem_append_left _ hcl
      · exact hr x hx
  have hk : a ++ c :: r ∉ kept := fun z => by
    have := List.all_eq_true.mp (List.all_eq_true.mp spec_not _ z) c (List.mem_append_right _ List.mem_cons_self)
    rw [decide_eq_true hc] at this; cases this
  have hh : ∃ x y, a ++ c :: r = x :: y ∧ x ∈ letters := by
    cases a with
    | nil => exact ⟨c, r, rfl, hcl⟩
    | cons x y => exact ⟨x, y ++ c :: r, rfl, ha x List.mem_cons_self⟩
  obtain ⟨x, y, e, hx⟩ := hh
  rw [e] at hl hall hk ⊢
  rw [nameOk_cons, decide_eq_true hl, decide_eq_true hx, decide_eq_true hk, List.all_eq_true.mpr fun z hz => decide_eq_true (hall z hz)]
  rfl
theorem word_names : nameOk (cs "n") = true ∧ nameOk (cs "plus") = true ∧ nameOk (cs "minus") = true ∧ nameOk (cs "times") = true ∧ nameOk (cs "less") = true ∧ nameOk (cs "turns") = true ∧ nameOk (cs "total") = true ∧ nameOk (cs "items") = true ∧ nameOk (cs "give") = true := by decide +kernel
theorem qx_len : (cs "qxzkj").length = 5 ∧ (Str.ofString "qxzkj").length = 5 := by decide +kernel
/-- signs drawn one by one -/
theorem lc_draws {σ : L2.St} {G : Hp} {Qd : Hp → Prop} {D C : Addr} {b n i : Nat} {z : Str} {al : List Nat} {tz : TE} (hal : tl z = al) (hz : al ≠ []) (hzl : al.length ≤ 1000) (hn : n ≤ 10) (hk : Dk G D C (b + n)) (hσ : ∀ v, ((wipe σ [i]).set i (some v))[0]? = some (some (.ref D)))
    (hi : ∀ v, wipe ((wipe σ [i]).set i (some v)) [i] = wipe σ [i]) (htz : ∀ v H1 (Q1 : VK), Q1 (.str z) H1 → tz ((wipe σ [i]).set i (some v)) H1 Q1)
    {D0 : Addr} (hD : G D0 = none) (k : ∀ (H' : Hp) (l : List Nat), Kp [D, C] G H' → Dk H' D C b → H' D0 = some (.lst (l.map signV)) → l.length = n → (∀ c ∈ l, c ∈ al) → Qd H') :
    ∃ W : Nat → Nat → Hp → Prop, (∃ m, W 0 m (upd G D0 (.lst []))) ∧ ∀ j m H, W j m H →
      ((Itr 0 n).stop j H ∧ Qd H) ∨ ((Itr 0 n).go j H ∧ ∃ Nx : Hp → Prop, (∀ H', Nx H' → ∃ m', m' < m ∧ W (j + 1) m' H') ∧ ∀ x H', (Itr 0 n).yld j H x H' → gName i x (wipe σ [i]) H' fun σ2 H2 => wipe σ2 [i] = wipe σ [i] ∧ tYes σ2 H2 fun b H3 =>
        if b = true then tCall (sp_lone (K := K)) [] E0 (tCons (tVar 0) (tCons tz tNil)) σ2 H3 fun y H4 => ∃ acc, H4 D0 = some (.lst acc) ∧ acc.length < sizeLine ∧ Nx (upd H4 D0 (.lst (acc ++ [y]))) else Nx H3) := by
  refine lc_it (walk_range (lo := 0) (n := n)) (fun j H => j ≤ n ∧ Kp [D, C] G H ∧ Dk H D C (b + (n - j)) ∧ ∃ l : List Nat, H D0 = some (.lst (l.map signV)) ∧ l.length = j ∧ ∀ c ∈ l, c ∈ al) ⟨Nat.zero_le _, Kp.of (Same.new hD), hk.same (Same.new hD), [], upd_same, rfl, by simp⟩ (fun _ _ _ _ => trivial) ?_ ?_
  · rintro j x H H' hj ⟨_, kH, dH, l, gl, hl, hc⟩ ⟨rfl, rfl⟩
    refine ⟨hi _, ?_⟩
    refine i_yes ?_
    refine i_ite rfl ?_
    refine ⟨_, hσ _, htz _ _ _ ?_⟩
    refine ⟨D, C, b + (n - (j + 1)), dH.less (by omega), .inr ⟨z, rfl, by rw [hal]; exact hz, by rw [hal]; exact hzl, fun c hcz H4 k4 d4 => ?_⟩⟩
    rw [hal] at hcz
    have nD := hk.fresh hD
    have g4 : H4 D0 = some (.lst (l.map signV)) := k4 _ _ nD gl
    refine ⟨_, g4, szl (by rw [List.length_map]; omega), by omega, ?_, d4.kp (X := [D0]) (Kp.upd (by simp)) ?_ ?_, l ++ [c], by rw [upd_same, List.map_append]; rfl, by simp [hl], ?_⟩
    · intro a o n1 e
      have ne : a ≠ D0 := fun z => by subst z; rw [hD] at e; cases e
      rw [upd_ne ne]
      exact k4 _ _ n1 (kH _ _ n1 e)
    · intro z; simp only [List.mem_singleton] at z; subst z; exact nD (by simp)
    · intro z; simp only [List.mem_singleton] at z; subst z; exact nD (by simp)
    · intro y hy
      rcases List.mem_append.mp hy with hy | hy
      · exact hc y hy
      · rw [List.mem_singleton] at hy; subst hy; exact hcz
  · rintro H ⟨_, kH, dH, l, gl, hl, hc⟩
    exact k H l kH (dH.less (by omega)) gl hl hc
def sp_lnames : Sp := fun vs H Q _ => ∃ (D C : Addr) (b : Nat) (m : Int), vs = [.ref D, .int m] ∧ 1 ≤ m ∧ m ≤ 4 ∧ Dk H D C (b + 30) ∧ ∀ N, After K H D C b fun H' => Nms K H' D C N → Q (.ref N) H'
theorem ok_lnames (T : Txt w K mg) : Cl P w K mg base CX0 3 "_law_names" ["_law_deck_here", "_law_many"] (sp_lnames (K := K)) := by
  have c__law_draw := ok_ldraw (P := P) (base := base) T
  have c__law_one := ok_lone (P := P) (base := base) T
  obtain ⟨fd, F⟩ := T.d__law_names
  refine ⟨_, fd, T.g__law_names, F.kp, (FunD.bindsN F (fun _ _ _ _ _ _ us hl => match us, hl with | [_, _], _ => rfl)), F.ok sc__law_names (fun vs H Q E h => ?len) (fun cdv A outer s H vs Q E hr h => ?run)⟩
  case len =>
    obtain ⟨D, C, b, m, rfl, _⟩ := h
    all_goals rfl
  refine ⟨_, PSs.nox (pss_cons (ps_asg (pe_tup (pa_cons pe_str (pa_cons (pe_lst (pa_cons pe_str pa_nil)) pa_nil))) (pg_tup rfl (pgs_cons (pg_name (i := 2) sc__law_names.nd rfl (by first | exact Or.inl rfl | exact Or.inr rfl)) (pgs_cons (pg_name (i := 3) sc__law_names.nd rfl (by first | exact Or.inl rfl | exact Or.inr rfl)) pgs_nil))))
      (pss_cons (ps_set (i := 4) sc__law_names.nd rfl (by first | exact Or.inl rfl | exact Or.inr rfl) (pcl c__law_one (hr.mono (by omega)) (pa_cons (pv 0) (pa_cons (pe_lst (pa_cons pe_int (pa_cons pe_int (pa_cons pe_int (pa_cons pe_int (pa_cons pe_int (pa_cons pe_int pa_nil))))))) pa_nil))))
      (pss_cons (ps_set (i := 5) sc__law_names.nd rfl (by first | exact Or.inl rfl | exact Or.inr rfl) (show PE _ _ (tM1 (rJoin K) _ _) from pe_join pe_str (pe_lc (own := [("_law_k", 6)]) rfl sc__law_names.nd (pi_range1 rfl T.f_range (pa_cons (pv 4) pa_nil)) (blkOk_by (own := [("_law_k", 6)]) (N := N__law_names) (sc := (defScope s__law_names)) (by decide +kernel)) (fun _ _ _ _ _ => pg_name (i := 6) sc__law_names.nd rfl (Or.inl rfl)) (fun _ _ _ _ _ => pts_nil) (fun _ _ _ _ _ => (pcl c__law_one (hr.mono (by omega)) (pa_cons (pv 0) (pa_cons (pv 2) pa_nil)))))))
      (pss_cons (ps_set (i := 7) sc__law_names.nd rfl (by first | exact Or.inl rfl | exact Or.inr rfl) (show PE _ _ (tM1 (rJoin K) _ _) from pe_join pe_str (pe_lc (own := [("_law_k", 6)]) rfl sc__law_names.nd (pi_range1 rfl T.f_range (pa_cons (pcl c__law_draw (hr.mono (by omega)) (pa_cons (pv 0) (pa_cons (pe_op op_sub pe_int (pv 4)) pa_nil))) pa_nil)) (blkOk_by (own := [("_law_k", 6)]) (N := N__law_names) (sc := (defScope s__law_names)) (by decide +kernel)) (fun _ _ _ _ _ => pg_name (i := 6) sc__law_names.nd rfl (Or.inl rfl)) (fun _ _ _ _ _ => pts_nil) (fun _ _ _ _ _ => (pcl c__law_one (hr.mono (by omega)) (pa_cons (pv 0) (pa_cons (pe_op op_addS (pv 2) pe_str) pa_nil)))))))
      (pss_cons (ps_for PassesOwn.never rfl (pi_range1 rfl T.f_range (pa_cons (pv 1) pa_nil)) (pg_name (i := 6) sc__law_names.nd rfl (by first | exact Or.inl rfl | exact Or.inr rfl)) (pss_one (ps_expr (pe_bm PySem.F.plainAttrs_list PySem.F.slot_list_append PySem.F.type_list_append mt_append (pv 3) (pa_cons (pe_op op_addS (pe_op op_addS (pv 5) (pe_ix ix_str pe_str (pv 6) (fun _ _ => rfl))) (pv 7)) pa_nil)))))
      (pss_cons (ps_set (i := 8) sc__law_names.nd rfl (by first | exact Or.inl rfl | exact Or.inr rfl) (pcl c__law_one (hr.mono (by omega)) (pa_cons (pv 0) (pa_cons (pe_lst (pa_cons pe_str (pa_cons pe_str (pa_cons pe_str (pa_cons pe_str (pa_cons pe_str (pa_cons pe_str (pa_cons pe_str (pa_cons pe_str pa_nil))))))))) pa_nil))))
      (pss_one (ps_ret (pe_ifExp (pt_cmpR op_gt (pcl c__law_draw (hr.mono (by omega)) (pa_cons (pv 0) (pa_cons pe_int pa_nil))) pe_int (nomark _)) (pv 3) (pe_op op_cat (pe_slice sl_list (pv 3) po_none (po_some (pe_un un_neg pe_int))) (pe_lst (pa_cons (pv 8) pa_nil)))))))))))), ?_⟩
  obtain ⟨D, C, b, m, rfl, hm1, hm4, hk, k⟩ := h
  walk_at "st"
  refine i_new (by simp) fun F hF => ?_
  walk_at "st"
  have nF := hk.fresh hF
  refine i_new (by simp) fun tp htp => ?_
  have s1 := Same.grow (o := .tup [.str "abcdefghijklmnopqrstuvwxyz", .ref F]) (Same.new (o := .lst [.str "n"]) hF) htp
  have gF : upd (upd H F (.lst [.str "n"])) tp (.tup [.str "abcdefghijklmnopqrstuvwxyz", .ref F]) F = some (.lst [.str "n"]) := (Same.new htp) _ _ upd_same
  have gT : upd (upd H F (.lst [.str "n"])) tp (.tup [.str "abcdefghijklmnopqrstuvwxyz", .ref F]) tp = some (.tup [.str "abcdefghijklmnopqrstuvwxyz", .ref F]) := upd_same
  have d1 := hk.same s1
  generalize upd (upd H F (.lst [.str "n"])) tp (.tup [.str "abcdefghijklmnopqrstuvwxyz", .ref F]) = G1 at s1 gF gT d1 ⊢
  refine i_gtup (.inl (.inl gT)) rfl ?_
  refine i_gcons ?_
  walk_at "st"
  refine i_gcons ?_
  walk_at "st"
  refine i_gnil ?_
  walk_at "st"
  refine i_new (by simp) fun q hq => ?_
  walk_at "st"
  have s2 := Same.new (o := .lst [.int 0, .int 0, .int 1, .int 3, .int 5, .int 7]) hq
  refine ⟨D, C, b + 29, (d1.same s2).less (by omega), .inl ⟨q, _, rfl, .inl (.inl upd_same), d1.fresh hq, by simp, by simp, fun u hu G3 k3 d3 => ?_⟩⟩
  obtain ⟨n, rfl, hn⟩ : ∃ n : Nat, u = .int (n : Int) ∧ n ≤ 7 := by
    simp only [List.mem_cons, List.not_mem_nil, or_false] at hu
    rcases hu with rfl | rfl | rfl | rfl | rfl | rfl
    · exact ⟨0, rfl, by omega⟩
    · exact ⟨0, rfl, by omega⟩
    · exact ⟨1, rfl, by omega⟩
    · exact ⟨3, rfl, by omega⟩
    · exact ⟨5, rfl, by omega⟩
    · exact ⟨7, rfl, by omega⟩
  have k13 : Kp [D, C] G1 G3 := Kp.trans (Kp.of s2) k3
  walk_at "st"
  refine ⟨_, rfl, by omega, by omega, fun D4 hD4 => ?_⟩
  refine lc_draws (K := K) (z := "abcdefghijklmnopqrstuvwxyz") (al := letters) (b := b + 22) (n := n) (i := 6) lets_p (by decide +kernel) (by decide +kernel) (by omega) (d3.less (by omega)) ?_ ?_ ?_ hD4 (fun G5 l1 k5 d5 g5 hl1 hc1 => ?_)
  · exact fun _ => rfl
  · exact fun _ => rfl
  · exact fun v H1 Q1 q => ⟨_, rfl, q⟩
  rw [signs_strs] at g5
  refine i_join (.inl (.inl g5)) (by rw [sum_signs, List.length_map]; have : Str.length "" = 0 := by decide +kernel
                                     rw [this]; omega) ?_
  rw [join_signs]
  walk_at "st"
  refine ⟨D, C, b + 21, _, rfl, by omega, by omega, d5.less (by omega), fun r hr0 hr8 G6 k6 d6 => ?_⟩
  obtain ⟨n2, rfl⟩ : ∃ n2 : Nat, r = (n2 : Int) := ⟨r.toNat, by omega⟩
  walk_at "st"
  refine ⟨_, rfl, by omega, by omega, fun D7 hD7 => ?_⟩
  refine lc_draws (K := K) (z := ("abcdefghijklmnopqrstuvwxyz" ++ "0123456789" : Str)) (al := letters ++ figs) (b := b + 13) (n := n2) (i := 6) lf_p (by decide +kernel) (by decide +kernel) (by omega) (d6.less (by omega)) ?_ ?_ ?_ hD7 (fun G8 l2 k8 d8 g8 hl2 hc2 => ?_)
  · exact fun _ => rfl
  · exact fun _ => rfl
  · intro v H1 Q1 q
    walk_at "st"
    exact i_addS (by decide +kernel) q
  rw [signs_strs] at g8
  refine i_join (.inl (.inl g8)) (by rw [sum_signs, List.length_map]; have : Str.length "" = 0 := by decide +kernel
                                     rw [this]; omega) ?_
  rw [join_signs]
  have k18 : Kp [D, C] G1 G8 := Kp.trans k13 (Kp.trans k5 (Kp.trans k6 k8))
  have gF8 := k18 _ _ nF gF
  walk_at "st"
  refine ⟨_, rfl, by omega, by omega, ?_⟩
  refine for_it (walk_range (lo := 0) (n := m.toNat)) (fun j τ G => ∃ x6 ns, τ = [some (.ref D), some (.int m), some (.str "abcdefghijklmnopqrstuvwxyz"), some (.ref F), some (.int (n : Int)), some (.str (mk l1)), x6, some (.str (mk l2)), none] ∧ Kp [D, C, F] G8 G ∧ G F = some (.lst (ns.map V.str)) ∧ ns.length = j + 1 ∧ (∀ x ∈ ns, nameOk (tl x) = true) ∧ Dk G D C (b + 13))
    ⟨_, [Str.ofString "n"], rfl, Kp.refl _ _, gF8, rfl, by intro x hx; rw [List.mem_singleton] at hx; subst hx; rw [tl_cs]; exact word_names.1, d8⟩ (fun _ _ _ _ _ => trivial) ?_ ?_
  · rintro j x τ G G' hj ⟨x6, ns, rfl, kG, gFF, hns, hok, dG⟩ ⟨rfl, rfl⟩
    obtain ⟨c, hc⟩ : ∃ c, (cs "qxzkj")[j]? = some c := ⟨_, List.getElem?_eq_getElem (by rw [qx_len.1]; omega)⟩
    walk_at "st"
    refine i_tyL (.inl (.inl gFF)) ?_
    walk_at "st"
    show rIxS _ (.int (0 + (j : Int))) _ _
    rw [Int.zero_add]
    refine i_ixS (j := j) (c := c) (by rw [qx_len.2]; omega) (by rw [tl_cs]; exact hc) ?_
    refine i_addE (q := [c]) rfl rfl (by simp; omega) ?_
    walk_at "st"
    refine i_addE rfl rfl (by simp; omega) ?_
    walk_at "st"
    refine i_append gFF (by rw [List.length_map]; omega) ?_
    walk_at "st"
    have ee : l1 ++ [c] ++ l2 = l1 ++ c :: l2 := by simp
    refine ⟨_, ns ++ [mk (l1 ++ [c] ++ l2)], rfl, Kp.trans kG (Kp.upd (by simp)), by rw [upd_same, List.map_append]; rfl, by simp [hns], ?_, dG.kp (X := [F]) (Kp.upd (by simp)) ?_ ?_⟩
    · intro x hx
      rcases List.mem_append.mp hx with hx | hx
      · exact hok x hx
      · rw [List.mem_singleton] at hx
        subst hx
        rw [tl_mk', ee]
        exact made_ok hc1 (List.mem_of_getElem? hc) hc2 (by simp; omega)
    · intro z; simp only [List.mem_singleton] at z; subst z; exact nF (by simp)
    · intro z; simp only [List.mem_singleton] at z; subst z; exact nF (by simp)
  · rintro τ G ⟨x6, ns, rfl, kG, gFF, hns, hok, dG⟩
    walk_at "st"
    refine i_new (by simp) fun q9 hq9 => ?_
    walk_at "st"
    have s9 := Same.new (o := .lst [.str "plus", .str "minus", .str "times", .str "less", .str "turns", .str "total", .str "items", .str "give"]) hq9
    refine ⟨D, C, b + 1, (dG.same s9).less (by omega), .inl ⟨q9, _, rfl, .inl (.inl upd_same), dG.fresh hq9, by simp, by simp, fun u hu Ga ka da => ?_⟩⟩
    obtain ⟨wd, rfl, hwd⟩ : ∃ wd : Str, u = .str wd ∧ nameOk (tl wd) = true := by
      obtain ⟨_, w2, w3, w4, w5, w6, w7, w8, w9⟩ := word_names
      simp only [List.mem_cons, List.not_mem_nil, or_false] at hu
      rcases hu with rfl | rfl | rfl | rfl | rfl | rfl | rfl | rfl
      · exact ⟨_, rfl, by rw [tl_cs]; exact w2⟩
      · exact ⟨_, rfl, by rw [tl_cs]; exact w3⟩
      · exact ⟨_, rfl, by rw [tl_cs]; exact w4⟩
      · exact ⟨_, rfl, by rw [tl_cs]; exact w5⟩
      · exact ⟨_, rfl, by rw [tl_cs]; exact w6⟩
      · exact ⟨_, rfl, by rw [tl_cs]; exact w7⟩
      · exact ⟨_, rfl, by rw [tl_cs]; exact w8⟩
      · exact ⟨_, rfl, by rw [tl_cs]; exact w9⟩
    have gFa := ka _ _ nF (s9 _ _ gFF)
    walk_at "st"
    refine ⟨D, C, b, 4, rfl, by omega, by omega, da, fun r hr0 hr4 Gb kb db => ?_⟩
    have gFb := kb _ _ nF gFa
    -- F was not there at the start
    have hFH : H F = none := hF
    have kall : Kp [D, C] H Gb := by
      intro a o n1 e
      have ne : a ≠ F := fun z => by subst z; rw [hFH] at e; cases e
      have e1 := k18 _ _ n1 (s1 _ _ e)
      have e2 := kG a o (by intro z; simp only [List.mem_cons, List.not_mem_nil, or_false] at z n1; rcases z with z | z | z; exact n1 (.inl z); exact n1 (.inr z); exact ne z) e1
      exact kb _ _ n1 (ka _ _ n1 (s9 _ _ e2))
    walk_at "st"
    by_cases hr : 0 < r
    · refine i_ite (decide_eq_true hr) ?_
      walk_at "st"
      exact k F Gb kall db ⟨⟨ns, gFb, by intro z; rw [z] at hns; simp at hns, by omega, hok⟩, nF⟩
    · refine i_itf (decide_eq_false hr) ?_
      walk_at "st"
      refine i_slL (.inl (.inl gFb)) fun qc hqc => ?_
      have ecut : cutV (ns.map V.str) none (some (-1)) = ns.dropLast.map V.str := by
        unfold cutV
        have e1 : HT.sIx (ns.map V.str).length (ns.map V.str).length (some (-1)) = ns.length - 1 := by
          unfold HT.sIx
          rw [List.length_map]
          simp
          omega
        rw [HT.sIx_none, e1, List.drop_zero, Nat.sub_zero, List.dropLast_eq_take, List.map_take]
      rw [ecut]
      walk_at "st"
      refine i_new (by simp) fun qd hqd => ?_
      have sc := Same.new (o := .lst (ns.dropLast.map V.str)) hqc
      have sd := Same.grow (o := .lst [.str wd]) sc hqd
      refine i_catL ((Same.new hqd) _ _ upd_same) upd_same (by simp; omega) fun qe hqe => ?_
      have se := Same.grow (o := .lst (ns.dropLast.map V.str ++ [.str wd])) sd hqe
      refine k qe _ (Kp.trans kall (Kp.of se)) (db.same se) ⟨⟨ns.dropLast ++ [wd], (by rw [upd_same, List.map_append]; rfl), by simp, by simp; omega, ?_⟩, (db.same sd).fresh hqe⟩
      intro x hx
      rcases List.mem_append.mp hx with hx | hx
      · exact hok x (List.dropLast_subset _ hx)
      · rw [List.mem_singleton] at hx; subst hx; exact hwd
end
end K04
/-! text F4 -/
set_option Elab.async false
set_option linter.all false
set_option maxRecDepth 100000
set_option maxHeartbeats 4000000
namespace K04
open PySem PySem.Spec PyProof.Rows L2 TL
local macro_rules
  | `(tactic| walk_at "st") => `(tactic| repeat (with_reducible first
    | refine i_seq ?_ | refine i_ret ?_ | refine i_asg ?_ | refine i_name ?_ | refine i_ifs ?_ | refine i_test ?_ | refine i_B ?_ | refine i_bl ?_ | refine i_var (by with_unfolding_all rfl) ?_ | refine i_c ?_
    | refine i_op ?_ | refine i_un ?_ | refine i_cb ?_ | refine i_cons ?_ | refine i_nil ?_ | refine i_call ?_ | refine i_and ?_ | refine i_or ?_ | refine i_not ?_ | refine i_andV ?_ | refine i_orV ?_ | refine i_notV ?_ | refine i_if ?_
    | refine i_tup ?_ | refine i_lst ?_ | refine i_sl ?_ | refine i_nopart ?_ | refine i_part ?_ | refine i_int ?_ | refine i_chain ?_ | refine i_I0 ?_ | refine i_par ?_ | refine i_two ?_ | refine i_bm ?_ | refine i_bm0 ?_ | refine i_m1 ?_ | refine i_tyS ?_ | refine i_str ?_
    | refine i_for ?_ | refine i_iTup ?_ | refine i_iList ?_ | refine i_iStr ?_ | refine i_iRng1 ?_ | refine i_iRng2 ?_ | refine i_iEnum ?_ | refine i_lc ?_ | refine i_yes ?_ | refine i_revL ?_ | refine i_fld ?_ | refine i_sfld ?_ | refine i_meth ?_ | refine i_make ?_ | refine i_isN ?_ | refine i_neg ?_ | refine i_notN ?_ | refine i_intB ?_ | refine i_intI ?_
    | refine i_next ?_ | refine i_drop ?_ | refine i_retN ?_ | refine i_gsub ?_ | refine i_ipI ?_ | refine i_aug (by with_unfolding_all rfl) ?_
    | refine i_eq (by with_unfolding_all rfl) ?_ | refine i_ne (by with_unfolding_all rfl) ?_))
abbrev N__law_block : List Str := ["_law_deck_here", "_law_names_here", "_law_depth", "_law_times", "_law_left", "_law_found", "_law_k"]
theorem sc__law_block : FnScope N__law_block ["_law_deck_here", "_law_names_here", "_law_depth", "_law_times", "_law_left"] (defScope s__law_block) := ⟨rfl, rfl, rfl, by decide +kernel, rfl, by decide +kernel, by decide +kernel⟩



/-- what may still be used: statements, weight, rests, comparings, choices -/
structure A5 where
  n : Int
  w : Int
  r : Int
  l : Int
  c : Int
def A5.v (a : A5) : List V := [.int a.n, .int a.w, .int a.r, .int a.l, .int a.c]
structure A5.nn (a : A5) : Prop where
  n : 0 ≤ a.n
  w : 0 ≤ a.w
  r : 0 ≤ a.r
  l : 0 ≤ a.l
  c : 0 ≤ a.c
structure Rl (t : Int) (pl w r l c : Int) (a a' : A5) : Prop where
  nn : a'.nn
  n : pl + a'.n = a.n
  w : t * w + a'.w = a.w
  r : t * r + a'.r = a.r
  l : t * l + a'.l = a.l
  c : t * c + a'.c = a.c
def RlB (t : Int) (p : List Sm) (a a' : A5) : Prop := Rl t (Sm.pls p : Nat) (Sm.cnts .weight p : Nat) (Sm.cnts .rest p : Nat) (Sm.cnts .less p : Nat) (Sm.cnts .choice p : Nat) a a'
def RlS (t : Int) (s : Sm) (a a' : A5) : Prop := Rl t (s.pl : Nat) (s.cnt .weight : Nat) (s.cnt .rest : Nat) (s.cnt .less : Nat) (s.cnt .choice : Nat) a a'
theorem RlB.nil {t : Int} {a : A5} (h : a.nn) : RlB t [] a a := ⟨h, by simp [Sm.pls], by simp [Sm.cnts], by simp [Sm.cnts], by simp [Sm.cnts], by simp [Sm.cnts]⟩
theorem RlB.snoc {t : Int} {p : List Sm} {s : Sm} {a a1 a2 : A5} (h : RlB t p a a1) (g : RlS t s a1 a2) : RlB t (p ++ [s]) a a2 := by
  have e1 : Sm.pls (p ++ [s]) = Sm.pls p + s.pl := by rw [pls_app]; simp [Sm.pls]
  have e2 : ∀ q, Sm.cnts q (p ++ [s]) = Sm.cnts q p + s.cnt q := fun q => by rw [cnts_app]; simp [Sm.cnts]
  unfold RlB
  rw [e1, e2, e2, e2, e2]
  refine ⟨g.nn, ?_, ?_, ?_, ?_, ?_⟩
  · have := h.n; have := g.n; omega
  · rw [Int.natCast_add, Int.mul_add]; have := h.w; have := g.w; omega
  · rw [Int.natCast_add, Int.mul_add]; have := h.r; have := g.r; omega
  · rw [Int.natCast_add, Int.mul_add]; have := h.l; have := g.l; omega
  · rw [Int.natCast_add, Int.mul_add]; have := h.c; have := g.c; omega
def cS : Nat → Nat
  | 0 => 40
  | n + 1 => 200 + 2 * (1 + 5 * cS n)
def cB (n : Nat) : Nat := 1 + 5 * cS n
section
variable {P : Program} {w : World} {K : PySem.W.Frag} {mg : Str → Option Value} {base : Heap}
/-- the law's state: the deck, the names, what is left -/
structure Ls (K : PySem.W.Frag) (H : Hp) (D C N Lf : Addr) (b : Nat) (a : A5) : Prop where
  dk : Dk H D C b
  nm : Nms K H D C N
  lf : H Lf = some (.lst a.v)
  n1 : Lf ∉ [D, C]
  n2 : N ≠ Lf
theorem Ls.less {H : Hp} {D C N Lf : Addr} {b b' : Nat} {a : A5} (h : Ls K H D C N Lf b a) (l : b' ≤ b) : Ls K H D C N Lf b' a := ⟨h.dk.less l, h.nm, h.lf, h.n1, h.n2⟩
theorem Ls.same {H H' : Hp} {D C N Lf : Addr} {b : Nat} {a : A5} (h : Ls K H D C N Lf b a) (s : Same H H') : Ls K H' D C N Lf b a := ⟨h.dk.same s, h.nm.kp (Kp.of s), s _ _ h.lf, h.n1, h.n2⟩
/-- behind a call that touches the deck alone -/
theorem Ls.aft {H H' : Hp} {D C N Lf : Addr} {b b' : Nat} {a : A5} (h : Ls K H D C N Lf b a) (k : Kp [D, C] H H') (d : Dk H' D C b') : Ls K H' D C N Lf b' a := ⟨d, h.nm.kp k, k _ _ h.n1 h.lf, h.n1, h.n2⟩
theorem Ls.notin {H : Hp} {D C N Lf : Addr} {b : Nat} {a : A5} (h : Ls K H D C N Lf b a) : N ∉ [D, C, Lf] ∧ D ≠ Lf ∧ C ≠ Lf := by
  have h1 := h.n1
  have h2 := h.nm.out
  have h3 := h.n2
  simp only [List.mem_cons, List.not_mem_nil, or_false, not_or] at h1 h2 ⊢
  exact ⟨⟨h2.1, h2.2, h3⟩, fun z => h1.1 z.symm, fun z => h1.2 z.symm⟩
theorem Ls.lists {H : Hp} {D C N Lf : Addr} {b : Nat} {a : A5} (h : Ls K H D C N Lf b a) : ∀ x ∈ [D, C, Lf], ∃ xs, H x = some (.lst xs) := by
  intro x hx
  simp only [List.mem_cons, List.not_mem_nil, or_false] at hx
  rcases hx with hx | hx | rfl
  · exact h.dk.lists x (by rw [hx]; simp)
  · exact h.dk.lists x (by rw [hx]; simp)
  · exact ⟨_, h.lf⟩
theorem Ls.fresh {H : Hp} {D C N Lf x : Addr} {b : Nat} {a : A5} (h : Ls K H D C N Lf b a) (hx : H x = none) : x ∉ [D, C, Lf] := fun z => by
  obtain ⟨xs, e⟩ := h.lists x z
  rw [hx] at e; cases e
theorem Ls.tk {H H' : Hp} {D C N Lf : Addr} {b : Nat} {a : A5} (h : Ls K H D C N Lf b a) (k : Kp [D, C, Lf] H H') : TK H H' := k.tk h.lists
theorem kp3 {D C Lf : Addr} {H H' : Hp} (k : Kp [D, C] H H') : Kp [D, C, Lf] H H' := k.up (by intro a ha; simp only [List.mem_cons, List.not_mem_nil, or_false] at ha ⊢; rcases ha with h | h; exact .inl h; exact .inr (.inl h))
/-- what is left is written -/
theorem Ls.put {H : Hp} {D C N Lf : Addr} {b : Nat} {a : A5} (h : Ls K H D C N Lf b a) (a' : A5) : Ls K (upd H Lf (.lst a'.v)) D C N Lf b a' := by
  obtain ⟨h1, h2, h3⟩ := h.notin
  have kp : Kp [Lf] H (upd H Lf (.lst a'.v)) := Kp.upd (by simp)
  refine ⟨h.dk.kp kp (by simpa using h2) (by simpa using h3), ?_, upd_same, h.n1, h.n2⟩
  obtain ⟨⟨ns, e1, e2⟩, e3⟩ := h.nm
  exact ⟨⟨ns, kp _ _ (by simpa using h.n2) e1, e2⟩, e3⟩
def sp_lblock (n : Nat) : Sp := fun vs H Q _ => ∃ (D C N Lf : Addr) (b d : Nat) (t : Int) (a : A5), vs = [.ref D, .ref N, .int (d : Int), .int t, .ref Lf] ∧ n + d = 3 ∧ 1 ≤ t ∧ Ls K H D C N Lf (b + cB n) a ∧ a.nn ∧
  ∀ v p a', RlB t p a a' → Sm.goods d p = true → ∀ H', Kp [D, C, Lf] H H' → Ls K H' D C N Lf b a' → Dp K H' v (bpy p) → Q v H'
def sp_lstat (n : Nat) : Sp := fun vs H Q _ => ∃ (D C N Lf : Addr) (b d : Nat) (t : Int) (a : A5), vs = [.ref D, .ref N, .int (d : Int), .int t, .ref Lf] ∧ n + d = 3 ∧ 1 ≤ t ∧ Ls K H D C N Lf (b + cS n) a ∧ a.nn ∧ 0 < a.n ∧ t ≤ a.w ∧
  ∀ v s a', RlS t s a a' → s.good d = true → ∀ H', Kp [D, C, Lf] H H' → Ls K H' D C N Lf b a' → Dp K H' v s.py → Q v H'
theorem good_app {d : Nat} : ∀ {p : List Sm} {s : Sm}, Sm.goods d p = true → s.good d = true → Sm.goods d (p ++ [s]) = true
  | [], s, _, h => by (show (s.good d && true) = true); rw [h]; rfl
  | x :: r, s, g, h => by
    have g2 : (x.good d && Sm.goods d r) = true := g
    rw [Bool.and_eq_true] at g2
    show (x.good d && Sm.goods d (r ++ [s])) = true
    rw [g2.1, good_app g2.2 h]; rfl
theorem kp_out {D C Lf F : Addr} {H H' : Hp} (k : Kp [D, C, Lf] H H') : Kp [D, C, Lf, F] H H' := k.up (by intro a ha; simp only [List.mem_cons, List.not_mem_nil, or_false] at ha ⊢; rcases ha with h | h | h; exact .inl h; exact .inr (.inl h); exact .inr (.inr (.inl h)))
/-- a list of one's own is no part of what was there -/
theorem kp_own {D C Lf F : Addr} {H H' : Hp} (k : Kp [D, C, Lf, F] H H') (hF : H F = none) : Kp [D, C, Lf] H H' := fun a o n e => k a o (by
  intro z
  simp only [List.mem_cons, List.not_mem_nil, or_false, not_or] at z n
  rcases z with z | z | z | z
  · exact n.1 z
  · exact n.2.1 z
  · exact n.2.2 z
  · subst z; rw [hF] at e; cases e) e
theorem ok_lblock (T : Txt w K mg) (n k : Nat) (hk2 : 2 ≤ k) (c__law_statement : Cl P w K mg base CX0 k "_law_statement" ["_law_deck_here", "_law_names_here", "_law_depth", "_law_times", "_law_left"] (sp_lstat (K := K) n)) :
    Cl P w K mg base CX0 (k + 1) "_law_block" ["_law_deck_here", "_law_names_here", "_law_depth", "_law_times", "_law_left"] (sp_lblock (K := K) n) := by
  have c__law_one := ok_lone (P := P) (base := base) T
  obtain ⟨fd, F⟩ := T.d__law_block
  refine ⟨_, fd, T.g__law_block, F.kp, (FunD.bindsN F (fun _ _ _ _ _ _ us hl => match us, hl with | [_, _, _, _, _], _ => rfl)), F.ok sc__law_block (fun vs H Q E h => ?len) (fun cdv A outer s H vs Q E hr h => ?run)⟩
  case len =>
    obtain ⟨D, C, N, Lf, b, d, t, a, rfl, _⟩ := h
    all_goals rfl
  refine ⟨_, PSs.nox (pss_cons (ps_set (i := 5) sc__law_block.nd rfl (by first | exact Or.inl rfl | exact Or.inr rfl) (pe_lst pa_nil))
      (pss_cons (ps_for PassesOwn.never rfl (pi_range1 rfl T.f_range (pa_cons (pe_op op_add (pcl c__law_one (hr.mono (by omega)) (pa_cons (pv 0) (pa_cons (pe_lst (pa_cons pe_int (pa_cons pe_int (pa_cons pe_int (pa_cons pe_int (pa_cons pe_int pa_nil)))))) pa_nil))) (pe_callTy call_intX (by rfl) T.f_int (by decide +kernel) (pa_cons (pe_cmpR op_eq (pv 2) pe_int (nomark _)) pa_nil))) pa_nil)) (pg_name (i := 6) sc__law_block.nd rfl (by first | exact Or.inl rfl | exact Or.inr rfl)) (pss_one (ps_if (PW.pt (pw_and (pt_cmpR op_gt (pe_ix ix_list (pv 4) pe_int (fun _ _ => rfl)) pe_int (nomark _)) (pw_and1 (pt_cmpR op_ge (pe_ix ix_list (pv 4) pe_int (fun _ _ => rfl)) (pv 3) (nomark _))))) (pss_one (ps_expr (pe_bm PySem.F.plainAttrs_list PySem.F.slot_list_append PySem.F.type_list_append mt_append (pv 5) (pa_cons (pcl c__law_statement (hr.mono (by omega)) (pa_cons (pv 0) (pa_cons (pv 1) (pa_cons (pv 2) (pa_cons (pv 3) (pa_cons (pv 4) pa_nil)))))) pa_nil)))) pss_nil)))
      (pss_one (ps_ret (pe_callTy call_tuple_of (by rfl) T.f_tuple (by decide +kernel) (pa_cons (pv 5) pa_nil)))))), ?_⟩
  obtain ⟨D, C, N, Lf, b, d, t, a, rfl, hnd, ht, hL, hnn, kk⟩ := h
  walk_at "st"
  refine i_new (by simp) fun F hF => ?_
  walk_at "st"
  have s1 := Same.new (o := .lst []) hF
  have L1 := hL.same s1
  have nF := hL.fresh hF
  refine i_new (by simp) fun q hq => ?_
  walk_at "st"
  have s2 := Same.new (o := .lst [.int 1, .int 2, .int 2, .int 3, .int 4]) hq
  have L2' := L1.same s2
  have gF2 : upd (upd H F (.lst [])) q (.lst [.int 1, .int 2, .int 2, .int 3, .int 4]) F = some (.lst []) := s2 _ _ upd_same
  have k2 : Kp [D, C, Lf] H (upd (upd H F (.lst [])) q (.lst [.int 1, .int 2, .int 2, .int 3, .int 4])) := Kp.of (Same.trans s1 s2)
  refine ⟨D, C, b + 5 * cS n, L2'.dk.less (by unfold cB; omega), .inl ⟨q, _, rfl, .inl (.inl upd_same), L1.dk.fresh hq, by simp, by simp, fun u hu G3 k3 d3 => ?_⟩⟩
  obtain ⟨m, rfl, hm⟩ : ∃ m : Nat, u = .int (m : Int) ∧ m ≤ 4 := by
    simp only [List.mem_cons, List.not_mem_nil, or_false] at hu
    rcases hu with rfl | rfl | rfl | rfl | rfl
    · exact ⟨1, rfl, by omega⟩
    · exact ⟨2, rfl, by omega⟩
    · exact ⟨2, rfl, by omega⟩
    · exact ⟨3, rfl, by omega⟩
    · exact ⟨4, rfl, by omega⟩
  have L3 := L2'.aft k3 d3
  have nF2 : F ∉ [D, C] := fun z => nF (by simp only [List.mem_cons, List.not_mem_nil, or_false] at z ⊢; rcases z with z | z; exact .inl z; exact .inr (.inl z))
  have gF3 := k3 _ _ nF2 gF2
  have k13 : Kp [D, C, Lf] H G3 := Kp.trans k2 (kp3 k3)
  walk_at "st"
  obtain ⟨e, he, he1⟩ : ∃ e : Nat, (if decide (V.int (d : Int) = .int 0) = true then (1 : Int) else 0) = (e : Int) ∧ e ≤ 1 := by
    split
    · exact ⟨1, rfl, by omega⟩
    · exact ⟨0, rfl, by omega⟩
  rw [he]
  refine ⟨_, rfl, by omega, by omega, ?_⟩
  have hrow : ((m : Int) + (e : Int)).toNat = m + e := by omega
  rw [hrow]
  refine for_it (walk_range (lo := 0) (n := m + e)) (fun j τ G => ∃ x6 xs p a', j ≤ m + e ∧ τ = [some (.ref D), some (.ref N), some (.int (d : Int)), some (.int t), some (.ref Lf), some (.ref F), x6] ∧ Kp [D, C, Lf, F] G3 G ∧ Ls K G D C N Lf (b + (5 - j) * cS n) a' ∧ G F = some (.lst xs) ∧ xs.length ≤ j ∧ DpAll K G xs (Sm.pys p) ∧ RlB t p a a' ∧ Sm.goods d p = true) ?_ (fun _ _ _ _ _ => trivial) ?_ ?_
  · exact ⟨_, [], [], a, Nat.zero_le _, rfl, Kp.refl _ _, L3, gF3, Nat.le_refl _, .nil, RlB.nil hnn, rfl⟩
  · rintro j x τ G G' hj ⟨x6, xs, p, a', hje, rfl, kG, LG, gFG, hxs, dxs, hrl, hgd⟩ ⟨rfl, rfl⟩
    have hsplit : (5 - j) * cS n = (5 - (j + 1)) * cS n + cS n := by
      rw [show 5 - j = (5 - (j + 1)) + 1 by omega, Nat.add_mul, Nat.one_mul]
    have skip : ∃ x6 xs p a', j + 1 ≤ m + e ∧ ([some (.ref D), some (.ref N), some (.int (d : Int)), some (.int t), some (.ref Lf), some (.ref F), some (V.int (0 + (j : Int)))] : L2.St) = [some (.ref D), some (.ref N), some (.int (d : Int)), some (.int t), some (.ref Lf), some (.ref F), x6] ∧ Kp [D, C, Lf, F] G3 G' ∧ Ls K G' D C N Lf (b + (5 - (j + 1)) * cS n) a' ∧ G' F = some (.lst xs) ∧ xs.length ≤ j + 1 ∧ DpAll K G' xs (Sm.pys p) ∧ RlB t p a a' ∧ Sm.goods d p = true :=
      ⟨_, xs, p, a', by omega, rfl, kG, LG.less (by omega), gFG, by omega, dxs, hrl, hgd⟩
    walk_at "st"
    refine i_ixL (j := 0) (v := .int a'.n) (.inl (.inl LG.lf)) rfl ?_
    walk_at "st"
    by_cases h0 : 0 < a'.n
    · refine i_ite (decide_eq_true h0) ?_
      walk_at "st"
      refine i_ixL (j := 1) (v := .int a'.w) (.inl (.inl LG.lf)) rfl ?_
      walk_at "st"
      by_cases h1 : t ≤ a'.w
      · refine i_ite (decide_eq_true h1) ?_
        walk_at "st"
        refine i_tyL (.inl (.inl gFG)) ?_
        walk_at "st"
        refine ⟨D, C, N, Lf, b + (5 - (j + 1)) * cS n, d, t, a', rfl, hnd, ht, LG.less (by omega), hrl.nn, h0, h1, fun v s' a2 hrs hgs G5 k5 L5 dv => ?_⟩
        walk_at "st"
        have gF5 := k5 _ _ nF gFG
        refine i_append gF5 (by omega) ?_
        walk_at "st"
        have s6 : Kp [F] G5 (upd G5 F (.lst (xs ++ [v]))) := Kp.upd (by simp)
        have tk6 : TK G5 (upd G5 F (.lst (xs ++ [v]))) := TK.lst gF5
        simp only [List.mem_cons, List.not_mem_nil, or_false, not_or] at nF
        refine ⟨_, xs ++ [v], p ++ [s'], a2, by omega, rfl, Kp.trans kG (Kp.trans (kp_out k5) (Kp.upd (by simp))), ⟨L5.dk.kp s6 (by simp; exact fun z => nF.1 z.symm) (by simp; exact fun z => nF.2.1 z.symm), ?_, ?_, L5.n1, L5.n2⟩, upd_same, by simp; omega, ?_, hrl.snoc hrs, good_app hgd hgs⟩
        · obtain ⟨⟨ns, e1, e2⟩, e3⟩ := L5.nm
          have nNF : N ≠ F := by
            rintro rfl
            obtain ⟨⟨ns0, z1, _⟩, _⟩ := hL.nm
            rw [hF] at z1; cases z1
          exact ⟨⟨ns, s6 _ _ (by simpa using nNF) e1, e2⟩, e3⟩
        · rw [upd_ne (fun z => nF.2.2 z.symm)]; exact L5.lf
        · rw [pys_app]
          exact dpa_app (dpa_tk (TK.trans (LG.tk k5) tk6) (noL_sms _) dxs) (.cons (dp_tk tk6 (noL_sm _) dv) .nil)
      · refine i_itf (decide_eq_false h1) ?_
        exact skip
    · refine i_itf (decide_eq_false h0) ?_
      refine i_itf rfl ?_
      exact skip
  · rintro τ G ⟨x6, xs, p, a', hje, rfl, kG, LG, gFG, hxs, dxs, hrl, hgd⟩
    walk_at "st"
    refine ⟨F, xs, rfl, .inl ⟨.inl (.inl gFG), fun tp htp => ?_⟩⟩
    have s7 := Same.new (o := .tup xs) htp
    have kHG : Kp [D, C, Lf] H G := by
      intro x o n1 e
      have ne : x ≠ F := fun z => by subst z; rw [hF] at e; cases e
      exact kG x o (by intro z; simp only [List.mem_cons, List.not_mem_nil, or_false, not_or] at z n1; rcases z with z | z | z | z; exact n1.1 z; exact n1.2.1 z; exact n1.2.2 z; exact ne z) (k13 x o n1 e)
    exact kk _ p a' hrl hgd _ (Kp.trans kHG (Kp.of s7)) ((LG.same s7).less (by omega)) (.tup (.inl (.inl upd_same)) (dpa_mono s7 dxs))
end
end K04
/-! text F5 -/
set_option Elab.async false
set_option linter.all false
set_option maxRecDepth 100000
set_option maxHeartbeats 4000000
namespace K04
open PySem PySem.Spec PyProof.Rows L2 TL
local macro_rules
  | `(tactic| walk_at "st") => `(tactic| repeat (with_reducible first
    | refine i_seq ?_ | refine i_ret ?_ | refine i_asg ?_ | refine i_name ?_ | refine i_ifs ?_ | refine i_test ?_ | refine i_B ?_ | refine i_bl ?_ | refine i_var (by with_unfolding_all rfl) ?_ | refine i_c ?_
    | refine i_op ?_ | refine i_un ?_ | refine i_cb ?_ | refine i_cons ?_ | refine i_nil ?_ | refine i_call ?_ | refine i_and ?_ | refine i_or ?_ | refine i_not ?_ | refine i_andV ?_ | refine i_orV ?_ | refine i_notV ?_ | refine i_if ?_
    | refine i_tup ?_ | refine i_lst ?_ | refine i_sl ?_ | refine i_nopart ?_ | refine i_part ?_ | refine i_int ?_ | refine i_chain ?_ | refine i_I0 ?_ | refine i_par ?_ | refine i_two ?_ | refine i_bm ?_ | refine i_bm0 ?_ | refine i_m1 ?_ | refine i_tyS ?_ | refine i_str ?_
    | refine i_for ?_ | refine i_iTup ?_ | refine i_iList ?_ | refine i_iStr ?_ | refine i_iRng1 ?_ | refine i_iRng2 ?_ | refine i_iEnum ?_ | refine i_lc ?_ | refine i_yes ?_ | refine i_revL ?_ | refine i_fld ?_ | refine i_sfld ?_ | refine i_meth ?_ | refine i_make ?_ | refine i_isN ?_ | refine i_neg ?_ | refine i_notN ?_ | refine i_intB ?_ | refine i_intI ?_
    | refine i_next ?_ | refine i_drop ?_ | refine i_retN ?_ | refine i_gsub ?_ | refine i_ipI ?_ | refine i_aug (by with_unfolding_all rfl) ?_
    | refine i_eq (by with_unfolding_all rfl) ?_ | refine i_ne (by with_unfolding_all rfl) ?_))
abbrev N__law_fork : List Str := ["_law_deck_here", "_law_names_here", "_law_depth", "_law_times", "_law_left", "_law_at", "_law_yes", "_law_no", "_law_head"]
theorem sc__law_fork : FnScope N__law_fork ["_law_deck_here", "_law_names_here", "_law_depth", "_law_times", "_law_left", "_law_at"] (defScope s__law_fork) := ⟨rfl, rfl, rfl, by decide +kernel, rfl, by decide +kernel, by decide +kernel⟩
def A5.at_ (a : A5) (j : Nat) : Int := match j with
  | 0 => a.n | 1 => a.w | 2 => a.r | 3 => a.l | _ => a.c
def A5.put (a : A5) (j : Nat) (x : Int) : A5 := match j with
  | 0 => { a with n := x } | 1 => { a with w := x } | 2 => { a with r := x } | 3 => { a with l := x } | _ => { a with c := x }
theorem A5.get {a : A5} {j : Nat} (h : j ≤ 4) : a.v[j]? = some (.int (a.at_ j)) := by
  match j, h with
  | 0, _ => rfl
  | 1, _ => rfl
  | 2, _ => rfl
  | 3, _ => rfl
  | 4, _ => rfl
theorem A5.set_ {a : A5} {j : Nat} {x : Int} (h : j ≤ 4) : a.v.set j (.int x) = (a.put j x).v := by
  match j, h with
  | 0, _ => rfl
  | 1, _ => rfl
  | 2, _ => rfl
  | 3, _ => rfl
  | 4, _ => rfl
def RlF (t : Int) (s : Sm) (a a' : A5) : Prop := Rl t ((s.pl : Nat) - 1) ((s.cnt .weight : Nat) - 1) (s.cnt .rest : Nat) (s.cnt .less : Nat) (s.cnt .choice : Nat) a a'
theorem RlF.up {t : Int} {s : Sm} {a a' : A5} (h : RlF t s ((a.put 0 (a.n - 1)).put 1 (a.w - t)) a') : RlS t s a a' := by
  obtain ⟨nn, h1, h2, h3, h4, h5⟩ := h
  refine ⟨nn, ?_, ?_, h3, h4, h5⟩
  · have e : (A5.put (a.put 0 (a.n - 1)) 1 (a.w - t)).n = a.n - 1 := rfl
    rw [e] at h1; omega
  · have e : (A5.put (a.put 0 (a.n - 1)) 1 (a.w - t)).w = a.w - t := rfl
    rw [e, Int.mul_sub, Int.mul_one] at h2; omega
theorem rl_leaf {t : Int} {s : Sm} {a : A5} (hs : s.pl = 1 ∧ s.cnt .weight = 1 ∧ s.cnt .rest = 0 ∧ s.cnt .less = 0 ∧ s.cnt .choice = 0) (hn : a.nn) (h0 : 0 < a.n) (h1 : t ≤ a.w) : RlS t s a ((a.put 0 (a.n - 1)).put 1 (a.w - t)) := by
  obtain ⟨e1, e2, e3, e4, e5⟩ := hs
  unfold RlS
  rw [e1, e2, e3, e4, e5]
  refine ⟨⟨?_, ?_, hn.r, hn.l, hn.c⟩, ?_, ?_, ?_, ?_, ?_⟩
  · show 0 ≤ a.n - 1; omega
  · show 0 ≤ a.w - t; omega
  · show ((1 : Nat) : Int) + (a.n - 1) = a.n; omega
  · show t * ((1 : Nat) : Int) + (a.w - t) = a.w; simp only [Int.natCast_one, Int.mul_one]; omega
  · show t * ((0 : Nat) : Int) + a.r = a.r; simp
  · show t * ((0 : Nat) : Int) + a.l = a.l; simp
  · show t * ((0 : Nat) : Int) + a.c = a.c; simp
theorem rl_rep {t : Int} {m : Nat} {b : List Sm} {a a' : A5} (h : RlB (t * (m : Int)) b ((a.put 0 (a.n - 1)).put 1 (a.w - t)) a') : RlS t (.rep (m : Int) b) a a' := by
  obtain ⟨nn, h1, h2, h3, h4, h5⟩ := h
  have em : ((m : Int)).toNat = m := by omega
  have ec : ∀ q, ((Sm.rep (m : Int) b).cnt q : Int) = (Sm.own q (.rep (m : Int) b) : Nat) + (Sm.cnts q b : Nat) * (m : Int) := fun q => by
    show ((Sm.own q (.rep (m : Int) b) + Sm.cnts q b * ((m : Int)).toNat : Nat) : Int) = _
    rw [em, Int.natCast_add, Int.natCast_mul]
  have mm : ∀ x : Int, t * (x * (m : Int)) = t * (m : Int) * x := fun x => by rw [Int.mul_assoc, Int.mul_comm x]
  unfold RlS
  rw [ec, ec, ec, ec]
  refine ⟨nn, ?_, ?_, ?_, ?_, ?_⟩
  · have e : (A5.put (a.put 0 (a.n - 1)) 1 (a.w - t)).n = a.n - 1 := rfl
    rw [e] at h1
    show ((1 + Sm.pls b : Nat) : Int) + a'.n = a.n
    omega
  · have e : (A5.put (a.put 0 (a.n - 1)) 1 (a.w - t)).w = a.w - t := rfl
    rw [e] at h2
    rw [Int.mul_add, mm]
    show t * ((1 : Nat) : Int) + _ + a'.w = a.w
    rw [Int.natCast_one, Int.mul_one]; omega
  · rw [Int.mul_add, mm]
    show t * ((0 : Nat) : Int) + _ + a'.r = a.r
    rw [show ((0 : Nat) : Int) = 0 from rfl, Int.mul_zero, Int.zero_add]; exact h3
  · rw [Int.mul_add, mm]
    show t * ((0 : Nat) : Int) + _ + a'.l = a.l
    rw [show ((0 : Nat) : Int) = 0 from rfl, Int.mul_zero, Int.zero_add]; exact h4
  · rw [Int.mul_add, mm]
    show t * ((0 : Nat) : Int) + _ + a'.c = a.c
    rw [show ((0 : Nat) : Int) = 0 from rfl, Int.mul_zero, Int.zero_add]; exact h5
theorem rl_fork {t : Int} {s : Sm} {j : Nat} {y n : List Sm} {a a1 a2 : A5} (hj : j = 2 ∨ j = 3 ∨ j = 4) (h1 : RlB t y (a.put j (a.at_ j - t)) a1) (h2 : RlB t n a1 a2) (e1 : s.pl = 1 + (Sm.pls y + Sm.pls n)) (ew : s.cnt .weight = 1 + (Sm.cnts .weight y + Sm.cnts .weight n))
    (er : s.cnt .rest = (if j = 2 then 1 else 0) + (Sm.cnts .rest y + Sm.cnts .rest n)) (el : s.cnt .less = (if j = 3 then 1 else 0) + (Sm.cnts .less y + Sm.cnts .less n)) (ec : s.cnt .choice = (if j = 4 then 1 else 0) + (Sm.cnts .choice y + Sm.cnts .choice n)) : RlF t s a a2 := by
  obtain ⟨nn1, p1, p2, p3, p4, p5⟩ := h1
  obtain ⟨nn2, q1, q2, q3, q4, q5⟩ := h2
  have ad : ∀ x y : Nat, t * ((x + y : Nat) : Int) = t * (x : Int) + t * (y : Int) := fun x y => by rw [Int.natCast_add, Int.mul_add]
  unfold RlF
  rw [e1, ew, er, el, ec]
  have one : t * ((1 : Nat) : Int) = t := by simp
  have zero : t * ((0 : Nat) : Int) = 0 := by simp
  rcases hj with rfl | rfl | rfl
  · have z1 : (a.put 2 (a.at_ 2 - t)).n = a.n := rfl
    have z2 : (a.put 2 (a.at_ 2 - t)).w = a.w := rfl
    have z3 : (a.put 2 (a.at_ 2 - t)).r = a.r - t := rfl
    have z4 : (a.put 2 (a.at_ 2 - t)).l = a.l := rfl
    have z5 : (a.put 2 (a.at_ 2 - t)).c = a.c := rfl
    rw [z1] at p1; rw [z2] at p2; rw [z3] at p3; rw [z4] at p4; rw [z5] at p5
    refine ⟨nn2, by omega, ?_, ?_, ?_, ?_⟩
    · rw [show (((1 + (Sm.cnts .weight y + Sm.cnts .weight n) : Nat) : Int) - 1) = ((Sm.cnts .weight y + Sm.cnts .weight n : Nat) : Int) by omega, ad]; omega
    · rw [if_pos rfl, ad, ad, one]; omega
    · rw [if_neg (by decide), ad, ad, zero]; omega
    · rw [if_neg (by decide), ad, ad, zero]; omega
  · have z1 : (a.put 3 (a.at_ 3 - t)).n = a.n := rfl
    have z2 : (a.put 3 (a.at_ 3 - t)).w = a.w := rfl
    have z3 : (a.put 3 (a.at_ 3 - t)).r = a.r := rfl
    have z4 : (a.put 3 (a.at_ 3 - t)).l = a.l - t := rfl
    have z5 : (a.put 3 (a.at_ 3 - t)).c = a.c := rfl
    rw [z1] at p1; rw [z2] at p2; rw [z3] at p3; rw [z4] at p4; rw [z5] at p5
    refine ⟨nn2, by omega, ?_, ?_, ?_, ?_⟩
    · rw [show (((1 + (Sm.cnts .weight y + Sm.cnts .weight n) : Nat) : Int) - 1) = ((Sm.cnts .weight y + Sm.cnts .weight n : Nat) : Int) by omega, ad]; omega
    · rw [if_neg (by decide), ad, ad, zero]; omega
    · rw [if_pos rfl, ad, ad, one]; omega
    · rw [if_neg (by decide), ad, ad, zero]; omega
  · have z1 : (a.put 4 (a.at_ 4 - t)).n = a.n := rfl
    have z2 : (a.put 4 (a.at_ 4 - t)).w = a.w := rfl
    have z3 : (a.put 4 (a.at_ 4 - t)).r = a.r := rfl
    have z4 : (a.put 4 (a.at_ 4 - t)).l = a.l := rfl
    have z5 : (a.put 4 (a.at_ 4 - t)).c = a.c - t := rfl
    rw [z1] at p1; rw [z2] at p2; rw [z3] at p3; rw [z4] at p4; rw [z5] at p5
    refine ⟨nn2, by omega, ?_, ?_, ?_, ?_⟩
    · rw [show (((1 + (Sm.cnts .weight y + Sm.cnts .weight n) : Nat) : Int) - 1) = ((Sm.cnts .weight y + Sm.cnts .weight n : Nat) : Int) by omega, ad]; omega
    · rw [if_neg (by decide), ad, ad, zero]; omega
    · rw [if_neg (by decide), ad, ad, zero]; omega
    · rw [if_pos rfl, ad, ad, one]; omega
section
variable {P : Program} {w : World} {K : PySem.W.Frag} {mg : Str → Option Value} {base : Heap}
def cF (n : Nat) : Nat := 70 + 2 * cB n
def sp_lfork (n : Nat) : Sp := fun vs H Q _ => ∃ (D C N Lf : Addr) (b d j : Nat) (t : Int) (a : A5), vs = [.ref D, .ref N, .int (d : Int), .int t, .ref Lf, .int (j : Int)] ∧ n + 1 + d = 3 ∧ 1 ≤ t ∧ (j = 2 ∨ j = 3 ∨ j = 4) ∧ Ls K H D C N Lf (b + cF n) a ∧ a.nn ∧ t ≤ a.at_ j ∧
  ∀ v s a', RlF t s a a' → s.good d = true → ∀ H', Kp [D, C, Lf] H H' → Ls K H' D C N Lf b a' → Dp K H' v s.py → Q v H'
theorem put_nn {a : A5} {j : Nat} {x : Int} (h : a.nn) (hx : 0 ≤ x) : (a.put j x).nn := by
  unfold A5.put
  split
  · exact ⟨hx, h.w, h.r, h.l, h.c⟩
  · exact ⟨h.n, hx, h.r, h.l, h.c⟩
  · exact ⟨h.n, h.w, hx, h.l, h.c⟩
  · exact ⟨h.n, h.w, h.r, hx, h.c⟩
  · exact ⟨h.n, h.w, h.r, h.l, hx⟩
theorem ok_lfork (T : Txt w K mg) (n k : Nat) (hk7 : 7 ≤ k) (c__law_block : Cl P w K mg base CX0 k "_law_block" ["_law_deck_here", "_law_names_here", "_law_depth", "_law_times", "_law_left"] (sp_lblock (K := K) n)) :
    Cl P w K mg base CX0 (k + 1) "_law_fork" ["_law_deck_here", "_law_names_here", "_law_depth", "_law_times", "_law_left", "_law_at"] (sp_lfork (K := K) n) := by
  have c__law_draw := ok_ldraw (P := P) (base := base) T
  have c__law_one := ok_lone (P := P) (base := base) T
  have c__law_test := ok_ltest (P := P) (base := base) T
  obtain ⟨fd, F⟩ := T.d__law_fork
  refine ⟨_, fd, T.g__law_fork, F.kp, (FunD.bindsN F (fun _ _ _ _ _ _ us hl => match us, hl with | [_, _, _, _, _, _], _ => rfl)), F.ok sc__law_fork (fun vs H Q E h => ?len) (fun cdv A outer s H vs Q E hr h => ?run)⟩
  case len =>
    obtain ⟨D, C, N, Lf, b, d, j, t, a, rfl, _⟩ := h
    all_goals rfl
  refine ⟨_, PSs.nox (pss_cons (ps_asg (pe_op op_sub (pe_ix ix_list (pv 4) (pv 5) (fun _ _ => rfl)) (pv 3)) (pg_sub (pv 4) (pv 5) set_list))
      (pss_cons (ps_asg (pe_tup (pa_cons (pe_tup pa_nil) (pa_cons (pe_tup pa_nil) pa_nil))) (pg_tup rfl (pgs_cons (pg_name (i := 6) sc__law_fork.nd rfl (by first | exact Or.inl rfl | exact Or.inr rfl)) (pgs_cons (pg_name (i := 7) sc__law_fork.nd rfl (by first | exact Or.inl rfl | exact Or.inr rfl)) pgs_nil))))
      (pss_cons (ps_set (i := 8) sc__law_fork.nd rfl (by first | exact Or.inl rfl | exact Or.inr rfl) (pe_ifExp (pt_cmpR op_eq (pv 5) pe_int (nomark _)) (pe_tup (pa_cons (pcl c__law_one (hr.mono (by omega)) (pa_cons (pv 0) (pa_cons (pe_lst (pa_cons pe_str (pa_cons pe_str (pa_cons pe_str pa_nil)))) pa_nil))) pa_nil)) (pe_tup (pa_cons pe_str (pa_cons (pcl c__law_test (hr.mono (by omega)) (pa_cons (pv 0) (pa_cons (pv 1) (pa_cons (pv 5) pa_nil)))) pa_nil)))))
      (pss_cons (ps_if (pt_cmpR op_gt (pcl c__law_draw (hr.mono (by omega)) (pa_cons (pv 0) (pa_cons pe_int pa_nil))) pe_int (nomark _)) (pss_one (ps_set (i := 6) sc__law_fork.nd rfl (by first | exact Or.inl rfl | exact Or.inr rfl) (pcl c__law_block (hr.mono (by omega)) (pa_cons (pv 0) (pa_cons (pv 1) (pa_cons (pe_op op_add (pv 2) pe_int) (pa_cons (pv 3) (pa_cons (pv 4) pa_nil)))))))) pss_nil)
      (pss_cons (ps_if (pt_cmpR op_gt (pcl c__law_draw (hr.mono (by omega)) (pa_cons (pv 0) (pa_cons pe_int pa_nil))) pe_int (nomark _)) (pss_one (ps_set (i := 7) sc__law_fork.nd rfl (by first | exact Or.inl rfl | exact Or.inr rfl) (pcl c__law_block (hr.mono (by omega)) (pa_cons (pv 0) (pa_cons (pv 1) (pa_cons (pe_op op_add (pv 2) pe_int) (pa_cons (pv 3) (pa_cons (pv 4) pa_nil)))))))) pss_nil)
      (pss_one (ps_ret (pe_op op_catA (pv 8) (pe_tup (pa_cons (pv 6) (pa_cons (pv 7) pa_nil))))))))))), ?_⟩
  obtain ⟨D, C, N, Lf, b, d, j, t, a, rfl, hnd, ht, hj, hL, hnn, hta, kk⟩ := h
  have hj4 : j ≤ 4 := by omega
  have hL : Ls K H D C N Lf (b + (70 + 2 * cB n)) a := hL
  walk_at "st"
  refine i_ixL (j := j) (v := .int (a.at_ j)) (.inl (.inl hL.lf)) (A5.get hj4) ?_
  walk_at "st"
  refine i_setL (j := j) hL.lf (by show j < 5; omega) ?_
  rw [A5.set_ hj4]
  have L1 := hL.put (a.put j (a.at_ j - t))
  have nn1 : (a.put j (a.at_ j - t)).nn := put_nn hnn (by omega)
  have k1 : Kp [D, C, Lf] H (upd H Lf (.lst (a.put j (a.at_ j - t)).v)) := Kp.upd (by simp)
  generalize upd H Lf (.lst (a.put j (a.at_ j - t)).v) = G1 at L1 k1 ⊢
  walk_at "st"
  refine i_new (by simp) fun p1 hp1 => ?_
  walk_at "st"
  refine i_new (by simp) fun p2 hp2 => ?_
  walk_at "st"
  refine i_new (by simp) fun p3 hp3 => ?_
  have s2 := Same.grow (o := .tup [.ref p1, .ref p2]) (Same.grow (o := .tup []) (Same.new (o := .tup []) hp1) hp2) hp3
  have e1 : upd (upd (upd G1 p1 (.tup [])) p2 (.tup [])) p3 (.tup [.ref p1, .ref p2]) p1 = some (.tup []) := (Same.new hp3) _ _ ((Same.new hp2) _ _ upd_same)
  have e2 : upd (upd (upd G1 p1 (.tup [])) p2 (.tup [])) p3 (.tup [.ref p1, .ref p2]) p2 = some (.tup []) := (Same.new hp3) _ _ upd_same
  have e3 : upd (upd (upd G1 p1 (.tup [])) p2 (.tup [])) p3 (.tup [.ref p1, .ref p2]) p3 = some (.tup [.ref p1, .ref p2]) := upd_same
  generalize upd (upd (upd G1 p1 (.tup [])) p2 (.tup [])) p3 (.tup [.ref p1, .ref p2]) = G2 at s2 e1 e2 e3 ⊢
  have L2' := L1.same s2
  have k2 : Kp [D, C, Lf] H G2 := Kp.trans k1 (Kp.of s2)
  refine i_gtup (.inl (.inl e3)) rfl ?_
  refine i_gcons ?_
  walk_at "st"
  refine i_gcons ?_
  walk_at "st"
  refine i_gnil ?_
  walk_at "st"
  have dy0 : Dp K G2 (.ref p1) (bpy []) := .tup (.inl (.inl e1)) .nil
  have dn0 : Dp K G2 (.ref p2) (bpy []) := .tup (.inl (.inl e2)) .nil
  -- behind the head
  have rest : ∀ (G : Hp) (hd : Addr) (hxs : List V) (hds : List PyData) (mk2 : List Sm → List Sm → Sm), Kp [D, C, Lf] H G → Ls K G D C N Lf (b + (2 + 2 * cB n)) (a.put j (a.at_ j - t)) → Dp K G (.ref p1) (bpy []) → Dp K G (.ref p2) (bpy []) → G hd = some (.tup hxs) → DpAll K G hxs hds → noLs hds = true → hxs ≠ [] → hxs.length ≤ 10 →
      (∀ y n, (mk2 y n).py = .tuple (hds ++ [bpy y, bpy n])) → (∀ y n, Sm.goods (d + 1) y = true → Sm.goods (d + 1) n = true → (mk2 y n).good d = true) →
      (∀ y n, (mk2 y n).pl = 1 + (Sm.pls y + Sm.pls n) ∧ (mk2 y n).cnt .weight = 1 + (Sm.cnts .weight y + Sm.cnts .weight n) ∧ (mk2 y n).cnt .rest = (if j = 2 then 1 else 0) + (Sm.cnts .rest y + Sm.cnts .rest n) ∧
        (mk2 y n).cnt .less = (if j = 3 then 1 else 0) + (Sm.cnts .less y + Sm.cnts .less n) ∧ (mk2 y n).cnt .choice = (if j = 4 then 1 else 0) + (Sm.cnts .choice y + Sm.cnts .choice n)) →
      tSeq (tIfS (tTest (tOp (rI0 fun i j => .bl (decide (j < i))) (tCall (sp_ldraw (K := K)) [] E0 (tCons (tVar 0) (tCons (tC (.int 4)) tNil))) (tC (.int 0)))) (tAsg (tCall (sp_lblock (K := K) n) [] E0 (tCons (tVar 0) (tCons (tVar 1) (tCons (tOp (rI0 fun i j => .int (i + j)) (tVar 2) (tC (.int 1))) (tCons (tVar 3) (tCons (tVar 4) tNil)))))) (gName 6)) tNext)
        (tSeq (tIfS (tTest (tOp (rI0 fun i j => .bl (decide (j < i))) (tCall (sp_ldraw (K := K)) [] E0 (tCons (tVar 0) (tCons (tC (.int 2)) tNil))) (tC (.int 0)))) (tAsg (tCall (sp_lblock (K := K) n) [] E0 (tCons (tVar 0) (tCons (tVar 1) (tCons (tOp (rI0 fun i j => .int (i + j)) (tVar 2) (tC (.int 1))) (tCons (tVar 3) (tCons (tVar 4) tNil)))))) (gName 7)) tNext)
        (tRet (tOp (rCatA K) (tVar 8) (tTup (tCons (tVar 6) (tCons (tVar 7) tNil))))))
      { nx := fun _ H' => Q .non H', rt := Q } [some (.ref D), some (.ref N), some (.int (d : Int)), some (.int t), some (.ref Lf), some (.int (j : Int)), some (.ref p1), some (.ref p2), some (.ref hd)] G := by
    intro G hd hxs hds mk2 kG LG dy dn ehd dhx hnl hne hhl hpy hgood hcnt
    have last : ∀ (G : Hp) (vy vn : V) (y z : List Sm) (a1 a2 : A5), Kp [D, C, Lf] H G → Ls K G D C N Lf b a2 → Dp K G vy (bpy y) → Dp K G vn (bpy z) → G hd = some (.tup hxs) → DpAll K G hxs hds → RlB t y (a.put j (a.at_ j - t)) a1 → RlB t z a1 a2 → Sm.goods (d + 1) y = true → Sm.goods (d + 1) z = true →
        tRet (tOp (rCatA K) (tVar 8) (tTup (tCons (tVar 6) (tCons (tVar 7) tNil)))) { nx := fun _ H' => Q .non H', rt := Q } [some (.ref D), some (.ref N), some (.int (d : Int)), some (.int t), some (.ref Lf), some (.int (j : Int)), some vy, some vn, some (.ref hd)] G := by
      intro G vy vn y z a1 a2 kG LG dy dn ehd dhx r1 r2 gy gz
      walk_at "st"
      refine i_new (by simp) fun q hq => ?_
      have sq := Same.new (o := .tup [vy, vn]) hq
      refine i_catA (.inl (.inl (sq _ _ ehd))) (.inl (.inl upd_same)) (by simp; omega) hne (by simp) fun q2 hq2 => ?_
      have sq2 := Same.grow (o := .tup (hxs ++ [vy, vn])) sq hq2
      obtain ⟨c1, c2, c3, c4, c5⟩ := hcnt y z
      refine kk _ (mk2 y z) a2 (rl_fork hj r1 r2 c1 c2 c3 c4 c5) (hgood y z gy gz) _ (Kp.trans kG (Kp.of sq2)) (LG.same sq2) ?_
      rw [hpy]
      exact .tup (.inl (.inl upd_same)) (dpa_app (dpa_mono sq2 dhx) (.cons (dp_mono sq2 dy) (.cons (dp_mono sq2 dn) .nil)))
    have second : ∀ (G : Hp) (vy : V) (y : List Sm) (a1 : A5), Kp [D, C, Lf] H G → Ls K G D C N Lf (b + (1 + cB n)) a1 → Dp K G vy (bpy y) → Dp K G (.ref p2) (bpy []) → G hd = some (.tup hxs) → DpAll K G hxs hds → RlB t y (a.put j (a.at_ j - t)) a1 → Sm.goods (d + 1) y = true →
        tSeq (tIfS (tTest (tOp (rI0 fun i j => .bl (decide (j < i))) (tCall (sp_ldraw (K := K)) [] E0 (tCons (tVar 0) (tCons (tC (.int 2)) tNil))) (tC (.int 0)))) (tAsg (tCall (sp_lblock (K := K) n) [] E0 (tCons (tVar 0) (tCons (tVar 1) (tCons (tOp (rI0 fun i j => .int (i + j)) (tVar 2) (tC (.int 1))) (tCons (tVar 3) (tCons (tVar 4) tNil)))))) (gName 7)) tNext)
        (tRet (tOp (rCatA K) (tVar 8) (tTup (tCons (tVar 6) (tCons (tVar 7) tNil))))) { nx := fun _ H' => Q .non H', rt := Q } [some (.ref D), some (.ref N), some (.int (d : Int)), some (.int t), some (.ref Lf), some (.int (j : Int)), some vy, some (.ref p2), some (.ref hd)] G := by
      intro G vy y a1 kG LG dy dn ehd dhx r1 gy
      walk_at "st"
      refine ⟨D, C, b + cB n, 2, rfl, by omega, by omega, LG.dk.less (by omega), fun r hr0 hr2 G3 k3 d3 => ?_⟩
      have L3 := LG.aft k3 d3
      have tk3 := LG.dk.tk k3
      have kk3 : Kp [D, C, Lf] G G3 := kp3 k3
      have ehd3 := kk3 hd _ (fun z => by obtain ⟨xs, e⟩ := LG.lists hd z; rw [ehd] at e; cases e) ehd
      walk_at "st"
      by_cases h0 : 0 < r
      · refine i_ite (decide_eq_true h0) ?_
        walk_at "st"
        refine ⟨D, C, N, Lf, b, d + 1, t, a1, rfl, by omega, ht, L3, r1.nn, fun v p a2 r2 gp G4 k4 L4 dv => ?_⟩
        have tk4 := L3.tk k4
        have ehd4 := k4 hd _ (fun z => by obtain ⟨xs, e⟩ := L3.lists hd z; rw [ehd3] at e; cases e) ehd3
        exact last G4 vy v y p a1 a2 (Kp.trans kG (Kp.trans kk3 k4)) L4 (dp_tk (TK.trans tk3 tk4) (by simp [bpy, noL, noL_sms]) dy) dv ehd4 (dpa_tk (TK.trans tk3 tk4) hnl dhx) r1 r2 gy gp
      · refine i_itf (decide_eq_false h0) ?_
        exact last G3 vy (.ref p2) y [] a1 a1 (Kp.trans kG kk3) (L3.less (by omega)) (dp_tk tk3 (by simp [bpy, noL, noL_sms]) dy) (dp_tk tk3 (by simp [bpy, noL, noL_sms]) dn) ehd3 (dpa_tk tk3 hnl dhx) r1 (RlB.nil r1.nn) gy rfl
    walk_at "st"
    refine ⟨D, C, b + (1 + 2 * cB n), 4, rfl, by omega, by omega, LG.dk.less (by omega), fun r hr0 hr2 G3 k3 d3 => ?_⟩
    have L3 := LG.aft k3 d3
    have tk3 := LG.dk.tk k3
    have kk3 : Kp [D, C, Lf] G G3 := kp3 k3
    have ehd3 := kk3 hd _ (fun z => by obtain ⟨xs, e⟩ := LG.lists hd z; rw [ehd] at e; cases e) ehd
    walk_at "st"
    by_cases h0 : 0 < r
    · refine i_ite (decide_eq_true h0) ?_
      walk_at "st"
      refine ⟨D, C, N, Lf, b + (1 + cB n), d + 1, t, _, rfl, by omega, ht, L3.less (by omega), nn1, fun v p a2 r2 gp G4 k4 L4 dv => ?_⟩
      have tk4 := L3.tk k4
      have ehd4 := k4 hd _ (fun z => by obtain ⟨xs, e⟩ := L3.lists hd z; rw [ehd3] at e; cases e) ehd3
      exact second G4 v p a2 (Kp.trans kG (Kp.trans kk3 k4)) L4 dv (dp_tk (TK.trans tk3 tk4) (by simp [bpy, noL, noL_sms]) dn) ehd4 (dpa_tk (TK.trans tk3 tk4) hnl dhx) r2 gp
    · refine i_itf (decide_eq_false h0) ?_
      exact second G3 (.ref p1) [] _ (Kp.trans kG kk3) (L3.less (by omega)) (dp_tk tk3 (by simp [bpy, noL, noL_sms]) dy) (dp_tk tk3 (by simp [bpy, noL, noL_sms]) dn) ehd3 (dpa_tk tk3 hnl dhx) (RlB.nil nn1) rfl
  have hdd : d ≤ 2 := by omega
  by_cases h4 : j = 4
  · refine i_ite (decide_eq_true (by rw [h4]; rfl)) ?_
    walk_at "st"
    refine i_new (by simp) fun q hq => ?_
    walk_at "st"
    have sq := Same.new (o := .lst [.str "we", .str "they", .str "they"]) hq
    refine ⟨D, C, b + (2 + 2 * cB n), (L2'.dk.same sq).less (by omega), .inl ⟨q, _, rfl, .inl (.inl upd_same), L2'.dk.fresh hq, by simp, by simp, fun u hu G5 k5 d5 => ?_⟩⟩
    obtain ⟨hh, rfl⟩ : ∃ hh : Bool, u = .str (hand hh) := by
      simp only [List.mem_cons, List.not_mem_nil, or_false] at hu
      rcases hu with rfl | rfl | rfl
      · exact ⟨true, rfl⟩
      · exact ⟨false, rfl⟩
      · exact ⟨false, rfl⟩
    have L5 := (L2'.same sq).aft k5 d5
    have tk5 : TK G2 G5 := TK.trans (TK.of sq) ((L2'.dk.same sq).tk k5)
    walk_at "st"
    refine i_new (by simp) fun p hp => ?_
    have sp := Same.new (o := .tup [.str (hand hh)]) hp
    refine rest _ p [.str (hand hh)] [.str (hand hh)] (fun y z => .cho hh y z) (Kp.trans k2 (Kp.trans (Kp.of sq) (Kp.trans (kp3 k5) (Kp.of sp)))) (L5.same sp) (dp_mono sp (dp_tk tk5 (by simp [bpy, noL, noL_sms]) dy0)) (dp_mono sp (dp_tk tk5 (by simp [bpy, noL, noL_sms]) dn0)) upd_same (.cons (.str _) .nil) rfl (by simp) (by simp) (fun y z => rfl) ?_ ?_
    · intro y z gy gz
      show (decide (d ≤ 3) && Sm.goods (d + 1) y && Sm.goods (d + 1) z) = true
      rw [decide_eq_true (by omega), gy, gz]; rfl
    · intro y z
      subst h4
      exact ⟨rfl, rfl, rfl, rfl, rfl⟩
  · refine i_itf (decide_eq_false (fun z => h4 (by have := V.int.inj z; omega))) ?_
    walk_at "st"
    refine ⟨D, C, N, b + (2 + 2 * cB n), (j : Int), rfl, L2'.dk.less (by show b + (2 + 2 * cB n) + 61 ≤ _; omega), L2'.nm, fun v te ot hb hq G5 k5 d5 dv => ?_⟩
    have L5 := L2'.aft k5 d5
    have tk5 := L2'.dk.tk k5
    walk_at "st"
    refine i_new (by simp) fun p hp => ?_
    have sp := Same.new (o := .tup [.str "if", v]) hp
    refine rest _ p [.str "if", v] [.str "if", te.py] (fun y z => .ift te y z) (Kp.trans k2 (Kp.trans (kp3 k5) (Kp.of sp))) (L5.same sp) (dp_mono sp (dp_tk tk5 (by simp [bpy, noL, noL_sms]) dy0)) (dp_mono sp (dp_tk tk5 (by simp [bpy, noL, noL_sms]) dn0)) upd_same (.cons (.str _) (.cons (dp_mono sp dv) .nil)) (by simp [noLs, noL, noL_te]) (by simp) (by simp) (fun y z => rfl) ?_ ?_
    · intro y z gy gz
      show (decide (d ≤ 3) && te.ok 2 && Sm.goods (d + 1) y && Sm.goods (d + 1) z) = true
      rw [decide_eq_true (by omega), ot, gy, gz]; rfl
    · intro y z
      have own : ∀ q, q = .rest ∨ q = .less → Sm.own q (.ift te y z) = if te.bare.is q = true then 1 else 0 := fun q hq => by rcases hq with rfl | rfl <;> rfl
      have hr : te.bare.is .rest = decide (j = 2) := by
        rcases hj with rfl | rfl | rfl
        · rw [decide_eq_true rfl]; exact hb
        · cases z : te.bare.is .rest with
          | false => rfl
          | true => have := hq _ z; exact absurd this (by unfold isSort; rw [if_neg (by decide)]; decide)
        · exact absurd rfl h4
      have hl : te.bare.is .less = decide (j = 3) := by
        rcases hj with rfl | rfl | rfl
        · cases z : te.bare.is .less with
          | false => rfl
          | true => have := hq _ z; exact absurd this (by unfold isSort; rw [if_pos (by decide)]; decide)
        · rw [decide_eq_true rfl]; have e : isSort ((3 : Nat) : Int) = .less := by unfold isSort; rw [if_neg (by decide)]
          rw [e] at hb; exact hb
        · exact absurd rfl h4
      refine ⟨rfl, rfl, ?_, ?_, ?_⟩
      · show Sm.own .rest (.ift te y z) + _ = _
        rw [own _ (.inl rfl), hr]
        by_cases e : j = 2 <;> simp [e]
      · show Sm.own .less (.ift te y z) + _ = _
        rw [own _ (.inr rfl), hl]
        by_cases e : j = 3 <;> simp [e]
      · show 0 + _ = _
        rw [if_neg h4]
end
end K04
/-! text F6 -/
set_option Elab.async false
set_option linter.all false
set_option maxRecDepth 100000
set_option maxHeartbeats 4000000
namespace K04
open PySem PySem.Spec PyProof.Rows L2 TL
local macro_rules
  | `(tactic| walk_at "st") => `(tactic| repeat (with_reducible first
    | refine i_seq ?_ | refine i_ret ?_ | refine i_asg ?_ | refine i_name ?_ | refine i_ifs ?_ | refine i_test ?_ | refine i_B ?_ | refine i_bl ?_ | refine i_var (by with_unfolding_all rfl) ?_ | refine i_c ?_
    | refine i_op ?_ | refine i_un ?_ | refine i_cb ?_ | refine i_cons ?_ | refine i_nil ?_ | refine i_call ?_ | refine i_and ?_ | refine i_or ?_ | refine i_not ?_ | refine i_andV ?_ | refine i_orV ?_ | refine i_notV ?_ | refine i_if ?_
    | refine i_tup ?_ | refine i_lst ?_ | refine i_sl ?_ | refine i_nopart ?_ | refine i_part ?_ | refine i_int ?_ | refine i_chain ?_ | refine i_I0 ?_ | refine i_par ?_ | refine i_two ?_ | refine i_bm ?_ | refine i_bm0 ?_ | refine i_m1 ?_ | refine i_tyS ?_ | refine i_str ?_
    | refine i_for ?_ | refine i_iTup ?_ | refine i_iList ?_ | refine i_iStr ?_ | refine i_iRng1 ?_ | refine i_iRng2 ?_ | refine i_iEnum ?_ | refine i_lc ?_ | refine i_yes ?_ | refine i_revL ?_ | refine i_fld ?_ | refine i_sfld ?_ | refine i_meth ?_ | refine i_make ?_ | refine i_isN ?_ | refine i_neg ?_ | refine i_notN ?_ | refine i_intB ?_ | refine i_intI ?_
    | refine i_next ?_ | refine i_drop ?_ | refine i_retN ?_ | refine i_gsub ?_ | refine i_ipI ?_ | refine i_aug (by with_unfolding_all rfl) ?_
    | refine i_eq (by with_unfolding_all rfl) ?_ | refine i_ne (by with_unfolding_all rfl) ?_))
abbrev N__law_statement : List Str := ["_law_deck_here", "_law_names_here", "_law_depth", "_law_times", "_law_left", "_law_way", "_law_at", "_law_many", "_law_is_empty"]
theorem sc__law_statement : FnScope N__law_statement ["_law_deck_here", "_law_names_here", "_law_depth", "_law_times", "_law_left"] (defScope s__law_statement) := ⟨rfl, rfl, rfl, by decide +kernel, rfl, by decide +kernel, by decide +kernel⟩
abbrev N__law_program : List Str := ["_law_deck_here", "_law_names_here", "_law_most"]
theorem sc__law_program : FnScope N__law_program ["_law_deck_here", "_law_names_here", "_law_most"] (defScope s__law_program) := ⟨rfl, rfl, rfl, by decide +kernel, rfl, by decide +kernel, by decide +kernel⟩
section
variable {P : Program} {w : World} {K : PySem.W.Frag} {mg : Str → Option Value} {base : Heap}
theorem leaf_set (x : Str) (e : Ex) : (Sm.set x e).pl = 1 ∧ (Sm.set x e).cnt .weight = 1 ∧ (Sm.set x e).cnt .rest = 0 ∧ (Sm.set x e).cnt .less = 0 ∧ (Sm.set x e).cnt .choice = 0 := ⟨rfl, rfl, rfl, rfl, rfl⟩
theorem leaf_pay (e : Ex) : (Sm.pay e).pl = 1 ∧ (Sm.pay e).cnt .weight = 1 ∧ (Sm.pay e).cnt .rest = 0 ∧ (Sm.pay e).cnt .less = 0 ∧ (Sm.pay e).cnt .choice = 0 := ⟨rfl, rfl, rfl, rfl, rfl⟩
theorem leaf_stop : Sm.stop.pl = 1 ∧ Sm.stop.cnt .weight = 1 ∧ Sm.stop.cnt .rest = 0 ∧ Sm.stop.cnt .less = 0 ∧ Sm.stop.cnt .choice = 0 := ⟨rfl, rfl, rfl, rfl, rfl⟩
theorem cle3 (n : Nat) (hn : n ≤ 3) : cE n ≤ 28 := by
  match n, hn with
  | 0, _ => decide
  | 1, _ => decide
  | 2, _ => decide
  | 3, _ => decide
theorem cS40 (n : Nat) : 40 ≤ cS n := by cases n with | zero => decide | succ n => (show 40 ≤ 200 + _); omega
theorem ok_lstat0 (T : Txt w K mg) (n k : Nat) (hk7 : 7 ≤ k) (c__law_block : Cl P w K mg base CX0 k "_law_block" ["_law_deck_here", "_law_names_here", "_law_depth", "_law_times", "_law_left"] (fun vs H Q E => ∃ m, n = m + 1 ∧ sp_lblock (K := K) m vs H Q E))
    (c__law_fork : Cl P w K mg base CX0 k "_law_fork" ["_law_deck_here", "_law_names_here", "_law_depth", "_law_times", "_law_left", "_law_at"] (fun vs H Q E => ∃ m, n = m + 1 ∧ sp_lfork (K := K) m vs H Q E)) :
    Cl P w K mg base CX0 (k + 1) "_law_statement" ["_law_deck_here", "_law_names_here", "_law_depth", "_law_times", "_law_left"] (sp_lstat (K := K) n) := by
  have c__law_draw := ok_ldraw (P := P) (base := base) T
  have c__law_one := ok_lone (P := P) (base := base) T
  have c__law_expr := ok_lexpr (P := P) (base := base) T 3
  obtain ⟨fd, F⟩ := T.d__law_statement
  refine ⟨_, fd, T.g__law_statement, F.kp, (FunD.bindsN F (fun _ _ _ _ _ _ us hl => match us, hl with | [_, _, _, _, _], _ => rfl)), F.ok sc__law_statement (fun vs H Q E h => ?len) (fun cdv A outer s H vs Q E hr h => ?run)⟩
  case len =>
    obtain ⟨D, C, N, Lf, b, d, t, a, rfl, _⟩ := h
    all_goals rfl
  refine ⟨_, PSs.nox (pss_cons (ps_asg (pe_tup (pa_cons (pe_op op_sub (pe_ix ix_list (pv 4) pe_int (fun _ _ => rfl)) pe_int) (pa_cons (pe_op op_sub (pe_ix ix_list (pv 4) pe_int (fun _ _ => rfl)) (pv 3)) pa_nil))) (pg_tup rfl (pgs_cons (pg_sub (pv 4) pe_int set_list) (pgs_cons (pg_sub (pv 4) pe_int set_list) pgs_nil))))
      (pss_cons (ps_par (i := 5) (j := 6) (by rfl) sc__law_statement.nd rfl rfl (by decide) rfl rfl (pa_cons (pcl c__law_draw (hr.mono (by omega)) (pa_cons (pv 0) (pa_cons pe_int pa_nil))) (pa_cons (pcl c__law_one (hr.mono (by omega)) (pa_cons (pv 0) (pa_cons (pe_lst (pa_cons pe_int (pa_cons pe_int (pa_cons pe_int (pa_cons pe_int pa_nil))))) pa_nil))) pa_nil)) (by rfl))
      (pss_cons (ps_if (PW.pt (pw_and (pt_cmpR op_in_seq (pv 5) (pe_lst (pa_cons pe_int (pa_cons pe_int (pa_cons pe_int pa_nil)))) (by rfl)) (pw_and (pt_cmpR op_lt (pv 2) pe_int (nomark _)) (pw_and1 (pt_cmpR op_ge (pe_ix ix_list (pv 4) (pv 6) (fun _ _ => rfl)) (pv 3) (nomark _)))))) (pss_one (ps_ret (pcl c__law_fork (hr.mono (by omega)) (pa_cons (pv 0) (pa_cons (pv 1) (pa_cons (pv 2) (pa_cons (pv 3) (pa_cons (pv 4) (pa_cons (pv 6) pa_nil))))))))) pss_nil)
      (pss_cons (ps_if (PW.pt (pw_and (pt_cmpR op_eq (pv 5) pe_int (nomark _)) (pw_and1 (pt_cmpR op_lt (pv 2) pe_int (nomark _))))) (pss_cons (ps_par (i := 7) (j := 8) (by rfl) sc__law_statement.nd rfl rfl (by decide) rfl rfl (pa_cons (pcl c__law_one (hr.mono (by omega)) (pa_cons (pv 0) (pa_cons (pe_lst (pa_cons pe_int (pa_cons pe_int (pa_cons pe_int (pa_cons pe_int (pa_cons pe_int (pa_cons pe_int pa_nil))))))) pa_nil))) (pa_cons (pe_cmpR op_eq (pcl c__law_draw (hr.mono (by omega)) (pa_cons (pv 0) (pa_cons pe_int pa_nil))) pe_int (nomark _)) pa_nil)) (by rfl))
      (pss_one (ps_ret (pe_tup (pa_cons pe_str (pa_cons (pv 7) (pa_cons (pe_ifExp (pt_val (pv 8)) (pe_tup pa_nil) (pcl c__law_block (hr.mono (by omega)) (pa_cons (pv 0) (pa_cons (pv 1) (pa_cons (pe_op op_add (pv 2) pe_int) (pa_cons (pe_op op_mul (pv 3) (pv 7)) (pa_cons (pv 4) pa_nil))))))) pa_nil))))))) pss_nil)
      (pss_cons (ps_if (PW.pt (pw_and (pt_cmpR op_eq (pv 5) pe_int (nomark _)) (pw_and1 (pt_cmpR op_eq (pcl c__law_draw (hr.mono (by omega)) (pa_cons (pv 0) (pa_cons pe_int pa_nil))) pe_int (nomark _))))) (pss_one (ps_ret (pe_tup (pa_cons pe_str pa_nil)))) pss_nil)
      (pss_cons (ps_if (pt_cmpR op_lt (pv 5) pe_int (nomark _)) (pss_one (ps_ret (pe_tup (pa_cons pe_str (pa_cons (pcl c__law_one (hr.mono (by omega)) (pa_cons (pv 0) (pa_cons (pv 1) pa_nil))) (pa_cons (pcl c__law_expr (hr.mono (by omega)) (pa_cons (pv 0) (pa_cons (pv 1) (pa_cons (pe_op op_add pe_int (pcl c__law_draw (hr.mono (by omega)) (pa_cons (pv 0) (pa_cons pe_int pa_nil)))) pa_nil)))) pa_nil)))))) pss_nil)
      (pss_one (ps_ret (pe_tup (pa_cons pe_str (pa_cons (pcl c__law_expr (hr.mono (by omega)) (pa_cons (pv 0) (pa_cons (pv 1) (pa_cons (pe_op op_add pe_int (pcl c__law_draw (hr.mono (by omega)) (pa_cons (pv 0) (pa_cons pe_int pa_nil)))) pa_nil)))) pa_nil))))))))))), ?_⟩
  obtain ⟨D, C, N, Lf, b, d, t, a, rfl, hnd, ht, hL, hnn, h0, h1, kk⟩ := h
  have hc40 := cS40 n
  walk_at "st"
  refine i_ixL (j := 0) (v := .int a.n) (.inl (.inl hL.lf)) rfl ?_
  walk_at "st"
  refine i_ixL (j := 1) (v := .int a.w) (.inl (.inl hL.lf)) rfl ?_
  walk_at "st"
  refine i_new (by simp) fun p1 hp1 => ?_
  have s1 := Same.new (o := .tup [.int (a.n - 1), .int (a.w - t)]) hp1
  have L1 := hL.same s1
  have e1 : upd H p1 (.tup [.int (a.n - 1), .int (a.w - t)]) p1 = some (.tup [.int (a.n - 1), .int (a.w - t)]) := upd_same
  generalize upd H p1 (.tup [.int (a.n - 1), .int (a.w - t)]) = G1 at s1 L1 e1 ⊢
  refine i_gtup (.inl (.inl e1)) rfl ?_
  refine i_gcons ?_
  walk_at "st"
  refine i_setL (j := 0) L1.lf (by show 0 < 5; decide) ?_
  rw [A5.set_ (j := 0) (by decide)]
  have L2' := L1.put (a.put 0 (a.n - 1))
  refine i_gcons ?_
  walk_at "st"
  refine i_setL (j := 1) upd_same (by show 1 < 5; decide) ?_
  rw [A5.set_ (j := 1) (by decide), upd_upd]
  have L3 := L1.put ((a.put 0 (a.n - 1)).put 1 (a.w - t))
  have k3 : Kp [D, C, Lf] H (upd G1 Lf (.lst ((a.put 0 (a.n - 1)).put 1 (a.w - t)).v)) := Kp.trans (Kp.of s1) (Kp.upd (by simp))
  generalize upd G1 Lf (.lst ((a.put 0 (a.n - 1)).put 1 (a.w - t)).v) = G3 at L3 k3 ⊢
  refine i_gnil ?_
  have nn3 : ((a.put 0 (a.n - 1)).put 1 (a.w - t)).nn := put_nn (put_nn hnn (by omega)) (by omega)
  have up := fun (s : Sm) (a' : A5) (h : RlF t s ((a.put 0 (a.n - 1)).put 1 (a.w - t)) a') => RlF.up h
  have leaf := fun (s : Sm) (hs) => rl_leaf (t := t) (s := s) (a := a) hs hnn h0 h1
  have rep := fun (m : Nat) (b : List Sm) (a' : A5) (h : RlB (t * (m : Int)) b ((a.put 0 (a.n - 1)).put 1 (a.w - t)) a') => rl_rep (t := t) (m := m) (b := b) (a := a) (a' := a') h
  generalize (a.put 0 (a.n - 1)).put 1 (a.w - t) = a3 at L3 nn3 up leaf rep k3 ⊢
  walk_at "st"
  refine ⟨D, C, b + cS n - 1, 10, rfl, by omega, by omega, L3.dk.less (by omega), fun r hr0 hr9 G4 k4 d4 => ?_⟩
  walk_at "st"
  refine i_new (by simp) fun q hq => ?_
  walk_at "st"
  have sq := Same.new (o := .lst [.int 2, .int 3, .int 4, .int 4]) hq
  have L4 := L3.aft k4 d4
  refine ⟨D, C, b + cS n - 2, (d4.same sq).less (by omega), .inl ⟨q, _, rfl, .inl (.inl upd_same), d4.fresh hq, by simp, by simp, fun u hu G5 k5 d5 => ?_⟩⟩
  obtain ⟨j, rfl, hj⟩ : ∃ j : Nat, u = .int (j : Int) ∧ (j = 2 ∨ j = 3 ∨ j = 4) := by
    simp only [List.mem_cons, List.not_mem_nil, or_false] at hu
    rcases hu with rfl | rfl | rfl | rfl
    · exact ⟨2, rfl, by omega⟩
    · exact ⟨3, rfl, by omega⟩
    · exact ⟨4, rfl, by omega⟩
    · exact ⟨4, rfl, by omega⟩
  have L5 := (L4.same sq).aft k5 d5
  have kk5 : Kp [D, C, Lf] H G5 := Kp.trans k3 (Kp.trans (kp3 k4) (Kp.trans (Kp.of sq) (kp3 k5)))
  walk_at "st"
  refine i_new (by simp) fun q6 hq6 => ?_
  have s6 := Same.new (o := .lst [.int 3, .int 4, .int 5]) hq6
  have e6 : upd G5 q6 (.lst [.int 3, .int 4, .int 5]) q6 = some (.lst [.int 3, .int 4, .int 5]) := upd_same
  have L6 := L5.same s6
  have k6 : Kp [D, C, Lf] H (upd G5 q6 (.lst [.int 3, .int 4, .int 5])) := Kp.trans kk5 (Kp.of s6)
  generalize upd G5 q6 (.lst [.int 3, .int 4, .int 5]) = G6 at e6 L6 k6 ⊢
  refine i_isL (.inl (.inl e6)) rfl rfl ?_
  walk_at "st"
  by_cases cf : inV (.int r) [.int 3, .int 4, .int 5] = true ∧ d < 3 ∧ t ≤ a3.at_ j
  · refine i_ite cf.1 ?_
    walk_at "st"
    refine i_ite (decide_eq_true (by have := cf.2.1; omega)) ?_
    walk_at "st"
    refine i_ixL (j := j) (v := .int (a3.at_ j)) (.inl (.inl L6.lf)) (A5.get (by omega)) ?_
    walk_at "st"
    refine i_ite (decide_eq_true cf.2.2) ?_
    walk_at "st"
    obtain ⟨m, rfl⟩ : ∃ m, n = m + 1 := ⟨n - 1, by omega⟩
    refine ⟨m, rfl, D, C, N, Lf, b, d, j, t, a3, rfl, by omega, ht, hj, L6.less (by unfold cF; show b + (70 + 2 * cB m) ≤ b + (200 + 2 * (1 + 5 * cS m)) - 2; unfold cB; omega), nn3, cf.2.2, fun v s' a' hrl hg G7 k7 L7 dv => ?_⟩
    exact kk v s' a' (up s' a' hrl) hg G7 (Kp.trans k6 k7) L7 dv
  refine i_common (fun g1 kB => ?_) ?_
  · walk_at "st"
    refine i_common (fun g2 kB2 => ?_) kB
    walk_at "st"
    refine i_ixL (j := j) (v := .int (a3.at_ j)) (.inl (.inl L6.lf)) (A5.get (by omega)) ?_
    walk_at "st"
    have g2' := of_decide_eq_true g2
    rw [decide_eq_false (fun z => cf ⟨g1, by omega, z⟩)]
    exact kB2
  refine i_itf rfl ?_
  walk_at "st"
  -- set, pay
  have pay : ∀ G, Kp [D, C, Lf] H G → Ls K G D C N Lf (b + 35) a3 → tRet (tTup (tCons (tC (.str "pay")) (tCons (tCall (sp_lexprA (K := K) 3) [] E0 (tCons (tVar 0) (tCons (tVar 1) (tCons (tOp (rI0 fun i j => .int (i + j)) (tC (.int 1)) (tCall (sp_ldraw (K := K)) [] E0 (tCons (tVar 0) (tCons (tC (.int 3)) tNil)))) tNil)))) tNil)))
      { nx := fun _ H' => Q .non H', rt := Q } [some (.ref D), some (.ref N), some (.int (d : Int)), some (.int t), some (.ref Lf), some (.int r), some (.int (j : Int)), none, none] G := by
    intro G kG LG
    walk_at "st"
    refine ⟨D, C, b + 30, 3, rfl, by omega, by omega, LG.dk.less (by omega), fun z hz0 hz3 Ga ka da => ?_⟩
    walk_at "st"
    obtain ⟨n1, hn1⟩ : ∃ n1 : Nat, 1 + z = (n1 : Int) := ⟨(1 + z).toNat, by omega⟩
    have c1 := cle3 n1 (by omega)
    rw [hn1]
    have La := LG.aft ka da
    refine ⟨n1, by omega, by omega, D, C, N, b, rfl, da.less (by omega), La.nm, fun v e he Gb kb db dv => ?_⟩
    walk_at "st"
    refine i_new (by simp) fun p hp => ?_
    have sp := Same.new (o := .tup [.str "pay", v]) hp
    refine kk _ (.pay e) a3 (leaf _ (leaf_pay e)) ?_ _ (Kp.trans kG (Kp.trans (kp3 ka) (Kp.trans (kp3 kb) (Kp.of sp)))) ((La.aft kb db).same sp) (dp_of2 upd_same (.str _) (dp_mono sp dv))
    show (decide (d ≤ 3) && e.ok 3) = true
    rw [decide_eq_true (by omega), ex_to3 he (by omega)]; rfl
  by_cases c6 : r = 6 ∧ d < 3
  · refine i_ite (decide_eq_true (by rw [c6.1])) ?_
    walk_at "st"
    refine i_ite (decide_eq_true (by have := c6.2; omega)) ?_
    walk_at "st"
    obtain ⟨m, rfl⟩ : ∃ m, n = m + 1 := ⟨n - 1, by have := c6.2; omega⟩
    refine i_new (by simp) fun q7 hq7 => ?_
    walk_at "st"
    have s7 := Same.new (o := .lst [.int 1, .int 1, .int 2, .int 2, .int 3, .int 8]) hq7
    have hcs : cS (m + 1) = 200 + 2 * (1 + 5 * cS m) := rfl
    refine ⟨D, C, b + cS (m + 1) - 3, (L6.dk.same s7).less (by omega), .inl ⟨q7, _, rfl, .inl (.inl upd_same), L6.dk.fresh hq7, by simp, by simp, fun u hu G8 k8 d8 => ?_⟩⟩
    obtain ⟨mm, rfl, hm1, hm8⟩ : ∃ mm : Nat, u = .int (mm : Int) ∧ 1 ≤ mm ∧ mm ≤ 8 := by
      simp only [List.mem_cons, List.not_mem_nil, or_false] at hu
      rcases hu with rfl | rfl | rfl | rfl | rfl | rfl
      · exact ⟨1, rfl, by omega, by omega⟩
      · exact ⟨1, rfl, by omega, by omega⟩
      · exact ⟨2, rfl, by omega, by omega⟩
      · exact ⟨2, rfl, by omega, by omega⟩
      · exact ⟨3, rfl, by omega, by omega⟩
      · exact ⟨8, rfl, by omega, by omega⟩
    have L8 := (L6.same s7).aft k8 d8
    have k68 : Kp [D, C, Lf] H G8 := Kp.trans k6 (Kp.trans (Kp.of s7) (kp3 k8))
    walk_at "st"
    refine ⟨D, C, b + cS (m + 1) - 4, 5, rfl, by omega, by omega, d8.less (by omega), fun z hz0 hz5 G9 k9 d9 => ?_⟩
    have L9 := L8.aft k9 d9
    have k69 : Kp [D, C, Lf] H G9 := Kp.trans k68 (kp3 k9)
    have gd : decide (d ≤ 3) = true := decide_eq_true (by have := c6.2; omega)
    have gm : decide ((1 : Int) ≤ (mm : Int) ∧ (mm : Int) ≤ 8) = true := decide_eq_true ⟨by omega, by omega⟩
    walk_at "st"
    refine i_cases (fun hz => ?_) (fun hz => ?_)
    · walk_at "st"
      refine i_new (by simp) fun q8 hq8 => ?_
      walk_at "st"
      refine i_new (by simp) fun qa hqa => ?_
      have s8 := Same.new (o := .tup []) hq8
      have sa := Same.grow (o := .tup [.str "repeat", .int (mm : Int), .ref q8]) s8 hqa
      refine kk _ (.rep (mm : Int) []) a3 (rep mm [] a3 (RlB.nil nn3)) ?_ _ (Kp.trans k69 (Kp.of sa)) ((L9.same sa).less (by omega)) (dp_of3 upd_same (.str _) (.int _) (.tup (.inl (.inl ((Same.new hqa) _ _ upd_same))) .nil))
      show (decide (d ≤ 3) && decide _ && true) = true
      rw [gd, gm]; rfl
    · walk_at "st"
      refine i_I (.inr (by omega)) ?_
      walk_at "st"
      refine ⟨m, rfl, D, C, N, Lf, b, d + 1, t * (mm : Int), a3, rfl, by omega, ?_, L9.less (by unfold cB; omega), nn3, fun v p a' hrl hg Gb kb Lb dv => ?_⟩
      · have : (1 : Int) * 1 ≤ t * (mm : Int) := Int.mul_le_mul ht (by omega) (by omega) (by omega)
        omega
      walk_at "st"
      refine i_new (by simp) fun qa hqa => ?_
      have sa := Same.new (o := .tup [.str "repeat", .int (mm : Int), v]) hqa
      refine kk _ (.rep (mm : Int) p) a' (rep mm p a' hrl) ?_ _ (Kp.trans k69 (Kp.trans kb (Kp.of sa))) (Lb.same sa) (dp_of3 upd_same (.str _) (.int _) (dp_mono sa dv))
      show (decide (d ≤ 3) && decide _ && Sm.goods (d + 1) p) = true
      rw [gd, gm, hg]; rfl
  refine i_common (fun g1 kB => ?_) ?_
  · walk_at "st"
    have g1' := of_decide_eq_true g1
    rw [decide_eq_false (fun z => c6 ⟨by have := V.int.inj g1'; exact this, by omega⟩)]
    exact kB
  refine i_itf rfl ?_
  walk_at "st"
  by_cases c7 : r = 7
  · refine i_ite (decide_eq_true (by rw [c7])) ?_
    walk_at "st"
    refine ⟨D, C, b + cS n - 3, 3, rfl, by omega, by omega, L6.dk.less (by omega), fun z hz0 hz3 G8 k8 d8 => ?_⟩
    have L8 := L6.aft k8 d8
    walk_at "st"
    refine i_cases (fun hz => ?_) (fun hz => ?_)
    · walk_at "st"
      refine i_new (by simp) fun qa hqa => ?_
      have sa := Same.new (o := .tup [.str "stop"]) hqa
      refine kk _ .stop a3 (leaf _ leaf_stop) ?_ _ (Kp.trans k6 (Kp.trans (kp3 k8) (Kp.of sa))) ((L8.same sa).less (by omega)) (dp_of1 upd_same (.str _))
      exact decide_eq_true (by omega)
    · walk_at "st"
      refine i_itf (decide_eq_false (by omega)) ?_
      exact pay G8 (Kp.trans k6 (kp3 k8)) (L8.less (by omega))
  · refine i_itf (decide_eq_false (fun z => c7 (V.int.inj z))) ?_
    refine i_itf rfl ?_
    walk_at "st"
    by_cases c4 : r < 4
    · refine i_ite (decide_eq_true c4) ?_
      walk_at "st"
      obtain ⟨⟨ns, n1, n2, n3, n4⟩, n5⟩ := L6.nm
      refine ⟨D, C, b + 30, L6.dk.less (by omega), .inl ⟨N, _, rfl, .inl (.inl n1), n5, by simpa using n2, by rw [List.length_map]; omega, fun u hu Ga ka da => ?_⟩⟩
      obtain ⟨x, hx, rfl⟩ := List.mem_map.mp hu
      have La := L6.aft ka da
      walk_at "st"
      refine ⟨D, C, b + 29, 3, rfl, by omega, by omega, da, fun z hz0 hz3 Gb kb db => ?_⟩
      walk_at "st"
      obtain ⟨n1', hn1⟩ : ∃ n1 : Nat, 1 + z = (n1 : Int) := ⟨(1 + z).toNat, by omega⟩
      have c1 := cle3 n1' (by omega)
      rw [hn1]
      have Lb := La.aft kb db
      refine ⟨n1', by omega, by omega, D, C, N, b, rfl, db.less (by omega), Lb.nm, fun v e he Gc kc dc dv => ?_⟩
      walk_at "st"
      refine i_new (by simp) fun p hp => ?_
      have sp := Same.new (o := .tup [.str "set", .str x, v]) hp
      refine kk _ (.set x e) a3 (leaf _ (leaf_set x e)) ?_ _ (Kp.trans k6 (Kp.trans (kp3 ka) (Kp.trans (kp3 kb) (Kp.trans (kp3 kc) (Kp.of sp))))) ((Lb.aft kc dc).same sp) (dp_of3 upd_same (.str _) (.str _) (dp_mono sp dv))
      show (decide (d ≤ 3) && nameOk (tl x) && e.ok 3) = true
      rw [decide_eq_true (by omega), n4 x hx, ex_to3 he (by omega)]; rfl
    · refine i_itf (decide_eq_false c4) ?_
      exact pay G6 k6 (L6.less (by omega))
theorem lv (T : Txt w K mg) : ∀ n : Nat, Cl P w K mg base CX0 (3 * n + 9) "_law_block" ["_law_deck_here", "_law_names_here", "_law_depth", "_law_times", "_law_left"] (sp_lblock (K := K) n)
| 0 => by
  refine ok_lblock T 0 8 (by omega) (ok_lstat0 T 0 7 (by omega) (Cl.up (j := 1) ?_ (by omega)) (Cl.up (j := 1) ?_ (by omega)))
  ·
    obtain ⟨fd, F⟩ := T.d__law_block
    exact ⟨_, fd, T.g__law_block, F.kp, (FunD.bindsN F (fun _ _ _ _ _ _ us hl => match us, hl with | [_, _, _, _, _], _ => rfl)), F.ok sc__law_block (fun vs H Q E h => ((show False by obtain ⟨m, e, _⟩ := h; omega)).elim) (fun cdv A outer s H vs Q E hr h => ((show False by obtain ⟨m, e, _⟩ := h; omega)).elim)⟩
  ·
    obtain ⟨fd, F⟩ := T.d__law_fork
    exact ⟨_, fd, T.g__law_fork, F.kp, (FunD.bindsN F (fun _ _ _ _ _ _ us hl => match us, hl with | [_, _, _, _, _, _], _ => rfl)), F.ok sc__law_fork (fun vs H Q E h => ((show False by obtain ⟨m, e, _⟩ := h; omega)).elim) (fun cdv A outer s H vs Q E hr h => ((show False by obtain ⟨m, e, _⟩ := h; omega)).elim)⟩
| n + 1 => by
  have ihb := lv T n
  have ihf := ok_lfork T n (3 * n + 9) (by omega) ihb
  have st := ok_lstat0 T (n + 1) (3 * n + 10) (by omega) ((ihb.imp fun vs H Q E h => by obtain ⟨m', e, h⟩ := h; obtain rfl : n = m' := (by omega); exact h).up (by omega)) (ihf.imp fun vs H Q E h => by obtain ⟨m', e, h⟩ := h; obtain rfl : n = m' := (by omega); exact h)
  exact ok_lblock T (n + 1) (3 * n + 11) (by omega) st
def cP : Nat := cB 3
theorem cP_le : cP ≤ 400000 := by decide
def sp_lprog : Sp := fun vs H Q _ => ∃ (D C N : Addr) (b : Nat), vs = [.ref D, .ref N, .int 24] ∧ Dk H D C (b + cP) ∧ Nms K H D C N ∧ ∀ v p, Prog p → After K H D C b fun H' => Dp K H' v (bpy p) → Q v H'
theorem ok_lprog (T : Txt w K mg) : Cl P w K mg base CX0 19 "_law_program" ["_law_deck_here", "_law_names_here", "_law_most"] (sp_lprog (K := K)) := by
  have c__law_block := lv (P := P) (base := base) T 3
  obtain ⟨fd, F⟩ := T.d__law_program
  refine ⟨_, fd, T.g__law_program, F.kp, (FunD.bindsN F (fun _ _ _ _ _ _ us hl => match us, hl with | [_, _, _], _ => rfl)), F.ok sc__law_program (fun vs H Q E h => ?len) (fun cdv A outer s H vs Q E hr h => ?run)⟩
  case len =>
    obtain ⟨D, C, N, b, rfl, _⟩ := h
    all_goals rfl
  refine ⟨_, PSs.nox (pss_one (ps_ret (pcl c__law_block (hr.mono (by omega)) (pa_cons (pv 0) (pa_cons (pv 1) (pa_cons pe_int (pa_cons pe_int (pa_cons (pe_lst (pa_cons (pv 2) (pa_cons pe_int (pa_cons pe_int (pa_cons pe_int (pa_cons pe_int pa_nil)))))) pa_nil)))))))), ?_⟩
  obtain ⟨D, C, N, b, rfl, hk, hN, k⟩ := h
  walk_at "st"
  refine i_new (by simp) fun Lf hLf => ?_
  walk_at "st"
  have s1 := Same.new (o := .lst [.int 24, .int 30, .int 2, .int 2, .int 4]) hLf
  have nN : N ≠ Lf := by
    rintro rfl
    obtain ⟨⟨ns, e, _⟩, _⟩ := hN
    rw [hLf] at e; cases e
  refine ⟨D, C, N, Lf, b, 0, 1, ⟨24, 30, 2, 2, 4⟩, rfl, rfl, by omega, ⟨hk.same s1, hN.kp (Kp.of s1), upd_same, hk.fresh hLf, nN⟩, ⟨by decide, by decide, by decide, by decide, by decide⟩, fun v p a' hrl hg H' kH LH dv => ?_⟩
  have kk : Kp [D, C] H H' := by
    intro x o n1 e
    have ne : x ≠ Lf := fun z => by subst z; rw [hLf] at e; cases e
    exact kH x o (by intro z; simp only [List.mem_cons, List.not_mem_nil, or_false, not_or] at z n1; rcases z with z | z | z; exact n1.1 z; exact n1.2 z; exact ne z) (s1 _ _ e)
  obtain ⟨nn, r1, r2, r3, r4, r5⟩ := hrl
  have r1' : (Sm.pls p : Int) + a'.n = 24 := r1
  have r2' : 1 * (Sm.cnts .weight p : Int) + a'.w = 30 := r2
  have r3' : 1 * (Sm.cnts .rest p : Int) + a'.r = 2 := r3
  have r4' : 1 * (Sm.cnts .less p : Int) + a'.l = 2 := r4
  have r5' : 1 * (Sm.cnts .choice p : Int) + a'.c = 4 := r5
  have := nn.n; have := nn.w; have := nn.r; have := nn.l; have := nn.c
  exact k v p ⟨hg, by omega, by omega, by omega, by omega, by omega⟩ H' kk LH.dk dv
end
end K04
/-! text F7 -/
set_option Elab.async false
set_option linter.all false
set_option maxRecDepth 100000
set_option maxHeartbeats 4000000
namespace K04
open PySem PySem.Spec PyProof.Rows L2 TL
local macro_rules
  | `(tactic| walk_at "st") => `(tactic| repeat (with_reducible first
    | refine i_seq ?_ | refine i_ret ?_ | refine i_asg ?_ | refine i_name ?_ | refine i_ifs ?_ | refine i_test ?_ | refine i_B ?_ | refine i_bl ?_ | refine i_var (by with_unfolding_all rfl) ?_ | refine i_c ?_
    | refine i_op ?_ | refine i_un ?_ | refine i_cb ?_ | refine i_cons ?_ | refine i_nil ?_ | refine i_call ?_ | refine i_and ?_ | refine i_or ?_ | refine i_not ?_ | refine i_andV ?_ | refine i_orV ?_ | refine i_notV ?_ | refine i_if ?_
    | refine i_tup ?_ | refine i_lst ?_ | refine i_sl ?_ | refine i_nopart ?_ | refine i_part ?_ | refine i_int ?_ | refine i_chain ?_ | refine i_I0 ?_ | refine i_par ?_ | refine i_two ?_ | refine i_bm ?_ | refine i_bm0 ?_ | refine i_m1 ?_ | refine i_tyS ?_ | refine i_str ?_
    | refine i_for ?_ | refine i_iTup ?_ | refine i_iList ?_ | refine i_iStr ?_ | refine i_iRng1 ?_ | refine i_iRng2 ?_ | refine i_iEnum ?_ | refine i_lc ?_ | refine i_yes ?_ | refine i_revL ?_ | refine i_fld ?_ | refine i_sfld ?_ | refine i_meth ?_ | refine i_make ?_ | refine i_isN ?_ | refine i_neg ?_ | refine i_notN ?_ | refine i_intB ?_ | refine i_intI ?_
    | refine i_next ?_ | refine i_drop ?_ | refine i_retN ?_ | refine i_gsub ?_ | refine i_ipI ?_ | refine i_aug (by with_unfolding_all rfl) ?_
    | refine i_eq (by with_unfolding_all rfl) ?_ | refine i_ne (by with_unfolding_all rfl) ?_))
abbrev N__law_parsed : List Str := ["_law_text", "_law_found", "error"]
theorem sc__law_parsed : FnScope N__law_parsed ["_law_text"] (defScope s__law_parsed) := ⟨rfl, rfl, rfl, by decide +kernel, rfl, by decide +kernel, by decide +kernel⟩
abbrev N__law_waits : List Str := ["_law_lines", "_law_waits_here", "_law_word", "_law_number", "_law_depth"]
theorem sc__law_waits : FnScope N__law_waits ["_law_lines"] (defScope s__law_waits) := ⟨rfl, rfl, rfl, by decide +kernel, rfl, by decide +kernel, by decide +kernel⟩
section
variable {X : Cx} {k : Nat} {x : Str} {ps : List Str} {sp : Sp} {e : Expr} {es : List Expr} {t : TA} {p pos : Pos} {E : L2.St → XK}
theorem pclX (G : Cl X.prog X.w X.K X.mg X.base (L2.CX X.prog X.w) k x ps sp) (hr : Room k X.A) (hx : ∀ σ, PassesAt (L2.CX X.prog X.w) X σ (E σ)) (ha : PA X (e :: es) t) (hg : Gl X x := by rfl)
    (hdb : (x == ("__debug__" : Str)) = false := by decide) (he : starEach (e :: es) X.env = (false, eval e X.env) :: starEach es X.env := by rfl) (hpl : (backTo pos (starEach es X.env)).any (·.1) = false := by rfl) :
    PE X (.Call (.Name x p) (e :: es) [] pos) (tCallS sp E t) := by
  obtain ⟨f, fd, hm, hk, hb, F⟩ := G
  exact pe_callS F hr hg hm hk hb hx ha hdb he hpl
end
section
variable {P : Program} {w : World} {K : PySem.W.Frag} {mg : Str → Option Value} {base : Heap}
theorem i_callS {sp : Sp} {E : L2.St → XK} {t : TA} {σ : L2.St} {H : Hp} {Q : VK} (q : t σ H fun vs H1 => sp vs H1 Q (E σ)) : tCallS sp E t σ H Q := q
def TextAt (H : Hp) (Q : VK) (n : Nat) : Prop := ∀ H' l, Same H H' → H l = none → H' l = some (.lst [.str "text", .int (n : Int)]) → Q (.ref l) H'
structure Ends4 (K : PySem.W.Frag) (H : Hp) (Q : VK) (ls : List (List Nat)) : Prop where
  step : ∀ i l S, ls[i]? = some l → runR start0 (ls.take i) = some S → (∃ S', rd S l = some S') ∨ (rd S l = none ∧ TextAt H Q (i + 1))
  fin : ∀ S, runR start0 ls = some S → (lacksR S = true ∧ TextAt H Q (ls.length + 1)) ∨ (lacksR S = false ∧ Prog (fin S) ∧ ∀ H' l v, Same H H' → H l = none → H' l = some (.lst [.str "ok", v]) → Dp K H' v (bpy (K04.fin S)) → Q (.ref l) H')
def sp_lparsed : Sp := fun vs H Q E => ∃ (ls : List (List Nat)), vs = [.str (joinT (cs "program" :: ls))] ∧ (∀ l ∈ ls, LineOk l) ∧ ls.length ≤ 200 ∧ Ends4 K H Q ls
theorem ok_lparsed (T : Txt w K mg) : Cl P w K mg base CX0 51 "_law_parsed" ["_law_text"] (sp_lparsed (K := K)) := by
  obtain ⟨_, xf_BadText, no_BadText, _, _⟩ := oex_ok T.mores.2.2.2.2.2.2.1
  have c_parse_program := ok_parse (P := P) (base := base) T
  obtain ⟨fd, F⟩ := T.d__law_parsed
  refine ⟨_, fd, T.g__law_parsed, F.kp, (FunD.bindsN F (fun _ _ _ _ _ _ us hl => match us, hl with | [_], _ => rfl)), F.ok sc__law_parsed (fun vs H Q E h => ?len) (fun cdv A outer s H vs Q E hr h => ?run)⟩
  case len =>
    obtain ⟨ls, rfl, _⟩ := h
    all_goals rfl
  refine ⟨_, PSs.nox (pss_cons (ps_try_first (i := 2) (c := .ref (He.ga K "BadText")) rfl rfl sc__law_parsed.nd rfl rfl (by exact ⟨rfl, by decide, .inl T.g_BadText⟩) (fun W1 pl x1 tk po => (pss_one (ps_set (i := 1) sc__law_parsed.nd rfl (by first | exact Or.inl rfl | exact Or.inr rfl) (pe_lst (pa_cons pe_str (pa_cons (pclX c_parse_program (hr.mono (by omega)) (fun σ => passAt tk σ) (pa_cons (pv 0) pa_nil)) pa_nil)))))) (fun a ob cls dd pl hz hf => (pss_one (ps_set (i := 1) sc__law_parsed.nd rfl (by first | exact Or.inl rfl | exact Or.inr rfl) (pe_lst (pa_cons pe_str (pa_cons (pe_xf xf_BadText no_BadText hz hf (pv 2)) pa_nil)))))))
      (pss_one (ps_ret (pv 1)))), ?_⟩
  obtain ⟨ls, rfl, hok, hlen, h4⟩ := h
  have hyes := T.exm_BadText
  with_reducible refine i_seq ?_
  show tAsg _ _ _ _ _
  walk_at "st"
  refine i_callS ?_
  walk_at "st"
  refine ⟨ls, rfl, hok, hlen, ?_, ?_⟩
  · intro i l S hl hS
    rcases h4.step i l S hl hS with h | ⟨h, ht⟩
    · exact .inl h
    · refine .inr ⟨h, fun H' d s he => ⟨hyes, fun a ha => ?_⟩⟩
      walk_at "st"
      refine ⟨.ref a, rfl, rfl, rfl, d, _, .int ((i + 1 : Nat) : Int), rfl, he, rfl, ?_⟩
      walk_at "st"
      refine i_new (by simp) fun l hl => ?_
      walk_at "st"
      exact ht _ l (Same.grow s hl) (s.free hl) upd_same
  · intro S hS
    rcases h4.fin S hS with ⟨h, ht⟩ | ⟨h, hp, ho⟩
    · refine .inl ⟨h, fun H' d s he => ⟨hyes, fun a ha => ?_⟩⟩
      walk_at "st"
      refine ⟨.ref a, rfl, rfl, rfl, d, _, .int ((ls.length + 1 : Nat) : Int), rfl, he, rfl, ?_⟩
      walk_at "st"
      refine i_new (by simp) fun l hl => ?_
      walk_at "st"
      exact ht _ l (Same.grow s hl) (s.free hl) upd_same
    · refine .inr ⟨h, hp, fun H' v s dv => ?_⟩
      walk_at "st"
      refine i_new (by simp) fun l hl => ?_
      walk_at "st"
      exact ho _ l v (Same.grow s hl) (s.free hl) upd_same (dp_mono (Same.new hl) dv)
/-! _law_waits -/
def lastW (ls : List (List Nat)) : List Nat := match ls.getLast? with
  | none => []
  | some l => bef (lst l)
def sp_lwaits : Sp := fun vs H Q _ => ∃ (L : Addr) (ls : List (List Nat)), vs = [.ref L] ∧ H L = some (.lst ((cs "program" :: ls).map sV)) ∧ (∀ l ∈ ls, l.length ≤ 300) ∧ ls.length ≤ 200 ∧ (∀ a l b, ls = a ++ l :: b → ahead l / 2 < (wRun [0] a).length) ∧
  ∀ H', Same H H' → Q (.bl (decide ((1 : Int) ∈ wRun [0] ls) || opens (lastW ls))) H'
theorem wStep_len (ws : List Int) (l : List Nat) : (wStep ws l).length ≤ ws.length + 1 := by
  unfold wStep
  simp only []
  split <;> split <;> simp <;> omega
theorem wRun_snoc : ∀ (a : List (List Nat)) (l : List Nat) (ws : List Int), wRun ws (a ++ [l]) = wStep (wRun ws a) l
  | [], l, ws => rfl
  | x :: r, l, ws => wRun_snoc r l (wStep ws x)
theorem in_or (s : String) (l : List Nat) : (eqV (.str (Str.ofString s)) (.str (mk l))) = decide (l = cs s) := by
  show (Str.ofString s == (mk l)) = _
  rw [kc, Bool.eq_iff_iff, beq_iff_eq, decide_eq_true_eq]
  exact ⟨fun h => (mk_inj h).symm, fun h => by rw [h]⟩
theorem in_we (l : List Nat) : inV (.str (mk l)) [.str "we", .str "they"] = decide (l = cs "we" ∨ l = cs "they") := by
  show (eqV (.str (Str.ofString "we")) (.str (mk l)) || (eqV (.str (Str.ofString "they")) (.str (mk l)) || false)) = _
  rw [in_or, in_or, Bool.or_false, Bool.decide_or]
theorem in_open (l : List Nat) : inV (.str (mk l)) [.str "if", .str "repeat", .str "else", .str "or"] = opens l := by
  show (eqV (.str (Str.ofString "if")) (.str (mk l)) || (eqV (.str (Str.ofString "repeat")) (.str (mk l)) || (eqV (.str (Str.ofString "else")) (.str (mk l)) || (eqV (.str (Str.ofString "or")) (.str (mk l)) || false)))) = _
  rw [in_or, in_or, in_or, in_or, Bool.or_false]; rfl
theorem in_ints (x : Int) : ∀ l : List Int, inV (.int x) (l.map V.int) = decide (x ∈ l)
  | [] => rfl
  | a :: r => by
    have := in_ints x r
    show (eqV (.int a) (.int x) || inV (.int x) (r.map V.int)) = _
    rw [this, Bool.eq_iff_iff]
    show (((a == x) || decide (x ∈ r)) = true) ↔ _
    rw [Bool.or_eq_true, beq_iff_eq, decide_eq_true_eq, decide_eq_true_eq, List.mem_cons]
    exact ⟨fun h => h.imp Eq.symm id, fun h => h.imp Eq.symm id⟩
theorem flat_ints : ∀ l : List Int, (l.map V.int).all flatV = true
  | [] => rfl
  | a :: r => flat_ints r
theorem cut_to (xs : List V) (k : Nat) : cutV xs none (some (k : Int)) = xs.take k := by
  unfold cutV
  rw [HT.sIx_none, HT.sIx_nat, List.drop_zero, Nat.sub_zero]
  by_cases h : k ≤ xs.length
  · rw [Nat.min_eq_left h]
  · rw [Nat.min_eq_right (by omega), List.take_of_length_le (Nat.le_refl _), List.take_of_length_le (by omega)]
theorem sp1 : (Str.length " " == 0) = false := by decide +kernel
theorem ok_lwaits (T : Txt w K mg) : Cl P w K mg base CX0 1 "_law_waits" ["_law_lines"] sp_lwaits := by
  obtain ⟨fd, F⟩ := T.d__law_waits
  refine ⟨_, fd, T.g__law_waits, F.kp, (FunD.bindsN F (fun _ _ _ _ _ _ us hl => match us, hl with | [_], _ => rfl)), F.ok sc__law_waits (fun vs H Q E h => ?len) (fun cdv A outer s H vs Q E hr h => ?run)⟩
  case len =>
    obtain ⟨L, ls, rfl, _⟩ := h
    all_goals rfl
  refine ⟨_, PSs.nox (pss_cons (ps_par (i := 1) (j := 2) (by rfl) sc__law_waits.nd rfl rfl (by decide) rfl rfl (pa_cons (pe_lst (pa_cons pe_int pa_nil)) (pa_cons pe_str pa_nil)) (by rfl))
      (pss_cons (ps_for PassesOwn.never rfl (pi_range2 rfl T.f_range (pa_cons pe_int (pa_cons (pe_callB call_lenX (by rfl) T.f_len (by decide +kernel) (pa_cons (pv 0) pa_nil)) pa_nil))) (pg_name (i := 3) sc__law_waits.nd rfl (by first | exact Or.inl rfl | exact Or.inr rfl)) (pss_cons (ps_set (i := 2) sc__law_waits.nd rfl (by first | exact Or.inl rfl | exact Or.inr rfl) (pe_ix ix_list (show PE _ _ (tM1 rSplit _ _) from pe_split (pe_bm PySem.F.plainAttrs_str PySem.F.slot_str_strip PySem.F.type_str_strip (show MtR _ _ rStripC from mt_stripChars) (pe_ix ix_list (pv 0) (pv 3) (fun _ _ => rfl)) (pa_cons pe_str pa_nil)) pe_str) pe_int (fun _ _ => rfl)))
      (pss_cons (ps_set (i := 4) sc__law_waits.nd rfl (by first | exact Or.inl rfl | exact Or.inr rfl) (pe_op op_fdiv (pe_op op_sub (pe_callB call_lenX (by rfl) T.f_len (by decide +kernel) (pa_cons (pe_ix ix_list (pv 0) (pv 3) (fun _ _ => rfl)) pa_nil)) (pe_callB call_lenX (by rfl) T.f_len (by decide +kernel) (pa_cons (pe_bm PySem.F.plainAttrs_str PySem.F.slot_str_lstrip PySem.F.type_str_lstrip (show MtR _ _ rLstripC from mt_lstripChars) (pe_ix ix_list (pv 0) (pv 3) (fun _ _ => rfl)) (pa_cons pe_str pa_nil)) pa_nil))) pe_int))
      (pss_cons (ps_set (i := 1) sc__law_waits.nd rfl (by first | exact Or.inl rfl | exact Or.inr rfl) (pe_slice sl_list (pv 1) po_none (po_some (pe_op op_add (pv 4) pe_int))))
      (pss_cons (ps_if (pt_cmpR op_eq (pv 2) pe_str (nomark _)) (pss_one (ps_asg pe_int (pg_sub (pv 1) (pv 4) set_list))) pss_nil)
      (pss_cons (ps_set (i := 1) sc__law_waits.nd rfl (by first | exact Or.inl rfl | exact Or.inr rfl) (pe_op op_cat (pv 1) (pe_lst (pa_cons pe_int pa_nil))))
      (pss_one (ps_if (pt_cmpR op_in_seq (pv 2) (pe_lst (pa_cons pe_str (pa_cons pe_str pa_nil))) (by rfl)) (pss_one (ps_asg pe_int (pg_sub (pv 1) (pv 4) set_list))) pss_nil))))))))
      (pss_one (ps_ret (pe_or (pe_cmpR op_in_seq pe_int (pv 1) (by rfl)) (pe_one (pe_cmpR op_in_seq (pv 2) (pe_lst (pa_cons pe_str (pa_cons pe_str (pa_cons pe_str (pa_cons pe_str pa_nil))))) (by rfl)))))))), ?_⟩
  obtain ⟨L, ls, rfl, hL, hll, hlen, hin, k⟩ := h
  have hxl : ((cs "program" :: ls).map sV).length = ls.length + 1 := by simp
  walk_at "st"
  refine i_new (by simp) fun W0 hW0 => ?_
  walk_at "st"
  have s1 := Same.new (o := .lst [.int 0]) hW0
  refine i_lenL (.inl (.inl (s1 _ _ hL))) ?_
  walk_at "st"
  rw [hxl]
  refine ⟨_, _, rfl, ⟨by omega, by omega, by omega, by omega⟩, ?_⟩
  have hcnt : (((ls.length + 1 : Nat) : Int) - 1).toNat = ls.length := by omega
  rw [hcnt]
  refine for_it (walk_range (lo := 1) (n := ls.length)) (fun j τ G => ∃ Wa x3 x4, τ = [some (.ref L), some (.ref Wa), some (.str (mk (lastW (ls.take j)))), x3, x4] ∧ Same H G ∧ H Wa = none ∧ G Wa = some (.lst ((wRun [0] (ls.take j)).map V.int)) ∧ (wRun [0] (ls.take j)).length ≤ 1 + j ∧ j ≤ ls.length) ⟨W0, _, _, by rw [show mk (lastW (ls.take 0)) = Str.ofString "" from (kc "").symm]; rfl, s1, hW0, upd_same, by simp [wRun], Nat.zero_le _⟩ (fun _ _ _ _ _ => trivial) ?_ ?_
  · rintro j x τ G G' hj ⟨Wa, x3, x4, rfl, sG, hWn, gW, hwl, _⟩ ⟨rfl, rfl⟩
    obtain ⟨l, hl⟩ : ∃ l, ls[j]? = some l := ⟨_, List.getElem?_eq_getElem hj⟩
    have hl3 := hll l (List.mem_of_getElem? hl)
    have hget : ((cs "program" :: ls).map sV)[j + 1]? = some (.str (mk l)) := by rw [List.map_cons, List.getElem?_cons_succ, List.getElem?_map, hl]; rfl
    have gL := sG _ _ hL
    have hsplit : ls = ls.take j ++ l :: ls.drop (j + 1) := by
      conv => lhs; rw [← List.take_append_drop j ls]
      rw [List.drop_eq_getElem_cons hj]
      rw [List.getElem?_eq_getElem hj] at hl
      rw [Option.some.inj hl]
    have hd := hin _ _ _ hsplit
    have hlast : lastW (ls.take (j + 1)) = bef (lst l) := by unfold lastW; rw [take_next hl, List.getLast?_concat]
    have hrun : wRun [0] (ls.take (j + 1)) = wStep (wRun [0] (ls.take j)) l := by rw [take_next hl, wRun_snoc]
    have hlst := lst_le l
    obtain ⟨m, hm1, hm2, hm3⟩ := strip_mk l
    obtain ⟨rs, hrs⟩ := split_head m
    walk_at "st"
    have ej : (1 + (j : Int)) = ((j + 1 : Nat) : Int) := by omega
    show rIxL K (.ref L) (.int (1 + (j : Int))) _ _
    rw [ej]
    refine i_ixL (j := j + 1) (.inl (.inl gL)) hget ?_
    walk_at "st"
    refine ⟨mk l, " ", rfl, rfl, sz (by rw [len_mk]; omega), ?_⟩
    rw [hm1]
    walk_at "st"
    refine i_split sp1 (by rw [len_mk]; omega) fun Ls hLs => ?_
    rw [hrs]
    walk_at "st"
    refine i_ixL (j := 0) (v := .str (mk (bef m))) (.inl (.inl upd_same)) rfl ?_
    rw [hm2]
    have s2 := Same.new (o := .lst ((mk (bef (lst l)) :: rs).map V.str)) hLs
    walk_at "st"
    show rIxL K (.ref L) (.int (1 + (j : Int))) _ _
    rw [ej]
    refine i_ixL (j := j + 1) (.inl (.inl (s2 _ _ gL))) hget ?_
    walk_at "st"
    refine i_lenS (by rw [len_mk]; omega) ?_
    walk_at "st"
    show rIxL K (.ref L) (.int (1 + (j : Int))) _ _
    rw [ej]
    refine i_ixL (j := j + 1) (.inl (.inl (s2 _ _ gL))) hget ?_
    walk_at "st"
    refine i_lstrip (by omega) ?_
    walk_at "st"
    refine i_lenS (by rw [len_mk]; omega) ?_
    walk_at "st"
    rw [len_mk, len_mk]
    refine i_I ⟨by omega, by omega⟩ ?_
    rw [show ((l.length : Int) - ((lst l).length : Int)) / 2 = ((ahead l / 2 : Nat) : Int) by unfold ahead; omega]
    generalize hdd : ahead l / 2 = d at hd
    have gW2 := s2 _ _ gW
    have sG2 := Same.trans sG s2
    generalize upd G' Ls (.lst ((mk (bef (lst l)) :: rs).map V.str)) = G2 at s2 gW2 sG2 ⊢
    generalize hws : wRun [0] (ls.take j) = ws at gW gW2 hwl hd hrun
    walk_at "st"
    refine i_slL (.inl (.inl gW2)) fun Wb hWb => ?_
    rw [show ((d : Int) + 1) = ((d + 1 : Nat) : Int) by omega, cut_to, ← List.map_take]
    have s3 := Same.new (o := .lst ((ws.take (d + 1)).map V.int)) hWb
    have g3 : upd G2 Wb (.lst ((ws.take (d + 1)).map V.int)) Wb = some (.lst ((ws.take (d + 1)).map V.int)) := upd_same
    have hWbn := sG2.free hWb
    have sG3 := Same.trans sG2 s3
    generalize upd G2 Wb (.lst ((ws.take (d + 1)).map V.int)) = G3 at g3 sG3 ⊢
    walk_at "st"
    rw [dec_kc]
    have hstep : wStep ws l = (let w2 := if bef (lst l) = cs "or" then (ws.take (d + 1)).set d 0 else ws.take (d + 1)
      if bef (lst l) = cs "we" ∨ bef (lst l) = cs "they" then (w2 ++ [0]).set d 1 else w2 ++ [0]) := by rw [← hdd]; rfl
    -- behind the first change
    have rest : ∀ (G : Hp) (w2 : List Int), Same H G → G Wb = some (.lst (w2.map V.int)) → w2.length = d + 1 → (w2 = if bef (lst l) = cs "or" then (ws.take (d + 1)).set d 0 else ws.take (d + 1)) →
        tSeq (tAsg (tOp rCat (tVar 1) (tLst (tCons (tC (.int 0)) tNil))) (gName 1)) (tIfS (tTest (tOp (rIn K false) (tVar 2) (tLst (tCons (tC (.str "we")) (tCons (tC (.str "they")) tNil))))) (tAsg (tC (.int 1)) (gSub (tVar 1) (tVar 4) rSetL)) tNext)
          { nx := fun τ G => ∃ Wa x3 x4, τ = [some (.ref L), some (.ref Wa), some (.str (mk (lastW (ls.take (j + 1))))), x3, x4] ∧ Same H G ∧ H Wa = none ∧ G Wa = some (.lst ((wRun [0] (ls.take (j + 1))).map V.int)) ∧ (wRun [0] (ls.take (j + 1))).length ≤ 1 + (j + 1) ∧ j + 1 ≤ ls.length, rt := Q }
          [some (.ref L), some (.ref Wb), some (.str (mk (bef (lst l)))), some (.int (1 + (j : Int))), some (.int (d : Int))] G := by
      intro G w2 sG' gb hlw ew
      have hlen3 : (wRun [0] (ls.take (j + 1))).length ≤ 1 + (j + 1) := by rw [hrun]; have := wStep_len ws l; omega
      have hgoal : wRun [0] (ls.take (j + 1)) = if bef (lst l) = cs "we" ∨ bef (lst l) = cs "they" then (w2 ++ [0]).set d 1 else w2 ++ [0] := by rw [hrun, hstep, ew]
      walk_at "st"
      refine i_new (by simp) fun q hq => ?_
      refine i_catL ((Same.new hq) _ _ gb) upd_same (by rw [List.length_map]; simp; omega) fun Wc hWc => ?_
      have sq := Same.grow (o := .lst [.int 0]) sG' hq
      have hWcn := sq.free hWc
      have sc := Same.grow (o := .lst (w2.map V.int ++ [.int 0])) sq hWc
      have gc : upd (upd G q (.lst [.int 0])) Wc (.lst (w2.map V.int ++ [.int 0])) Wc = some (.lst ((w2 ++ [0]).map V.int)) := by rw [upd_same, List.map_append]; rfl
      generalize upd (upd G q (.lst [.int 0])) Wc (.lst (w2.map V.int ++ [.int 0])) = G5 at sc gc ⊢
      walk_at "st"
      refine i_new (by simp) fun q2 hq2 => ?_
      have s6 := Same.grow (o := .lst [.str "we", .str "they"]) sc hq2
      have g6 := (Same.new (o := .lst [.str "we", .str "they"]) hq2) _ _ gc
      refine i_isL (.inl (.inl upd_same)) rfl rfl ?_
      walk_at "st"
      rw [in_we]
      by_cases hwe : bef (lst l) = cs "we" ∨ bef (lst l) = cs "they"
      · rw [decide_eq_true hwe]
        rw [if_pos hwe] at hgoal
        refine i_ite rfl ?_
        walk_at "st"
        refine i_setL (j := d) g6 (by rw [List.length_map, List.length_append]; simp; omega) ?_
        refine ⟨Wc, some (.int (1 + (j : Int))), some (.int (d : Int)), by rw [hlast]; rfl, Same.mut s6 hWcn, hWcn, ?_, hlen3, by omega⟩
        rw [upd_same, hgoal, ← List.map_set]
      · rw [decide_eq_false hwe]
        rw [if_neg hwe] at hgoal
        refine i_itf rfl ?_
        refine ⟨Wc, some (.int (1 + (j : Int))), some (.int (d : Int)), by rw [hlast]; rfl, s6, hWcn, ?_, hlen3, by omega⟩
        rw [hgoal]; exact g6
    have hlt : (ws.take (d + 1)).length = d + 1 := by rw [List.length_take]; omega
    by_cases hor : bef (lst l) = cs "or"
    · rw [decide_eq_true hor]
      refine i_ite rfl ?_
      walk_at "st"
      refine i_setL (j := d) g3 (by rw [List.length_map]; omega) ?_
      rw [show (V.int 0) = V.int ((0 : Int)) from rfl, ← List.map_set]
      exact rest _ _ (Same.mut sG3 hWbn) upd_same (by rw [List.length_set]; exact hlt) (by rw [if_pos hor])
    · rw [decide_eq_false hor]
      refine i_itf rfl ?_
      exact rest _ _ sG3 g3 hlt (by rw [if_neg hor])
  · rintro τ G ⟨Wa, x3, x4, rfl, sG, hWn, gW, hwl, _⟩
    rw [List.take_length] at gW
    rw [List.take_length]
    walk_at "st"
    refine i_isL (.inl (.inl gW)) rfl (flat_ints _) ?_
    walk_at "st"
    rw [in_ints]
    cases h1 : decide ((1 : Int) ∈ wRun [0] ls) with
    | true =>
      refine i_ite rfl ?_
      have := k _ sG
      rw [h1] at this
      exact this
    | false =>
      refine i_itf rfl ?_
      walk_at "st"
      refine i_new (by simp) fun q hq => ?_
      refine i_isL (.inl (.inl upd_same)) rfl rfl ?_
      rw [in_open]
      have := k _ (Same.grow (o := .lst [.str "if", .str "repeat", .str "else", .str "or"]) sG hq)
      rw [h1] at this
      exact this
end
end K04
/-! text G0 -/
set_option Elab.async false
set_option linter.all false
set_option maxRecDepth 100000
set_option maxHeartbeats 2000000
/-! A def that is called where nothing is being shown (repr wants that), and the law's end for it -/
namespace K04
open PySem PySem.Spec PyProof.Rows L2
/-- the promise of a def for callers under which no repr runs -/
def RunG (P : Program) (w : World) (K : PySem.W.Frag) (mg : Str → Option Value) (base : Heap) (k : Nat) (f : Addr) (fd : FuncData) (ps : List Str) (sp : Sp) : Prop :=
  ∀ (B : Around) (es : List Env) (s : Shared) (H : Hp) (ar : Args) (us : List Value) (vs : List V) (Q : VK) (E : XK), B.guards = some [] → Room k B →
    Env0 P w K mg base B es s H → BindsTo s fd ar (ps.zip us) → Vals vs us → sp vs H Q E → codeAny (model P w) B (.call (.ref f) ar) (CR CX0 es P w H s Q E) s
section
variable {P : Program} {w : World} {K : PySem.W.Frag} {mg : Str → Option Value} {base : Heap}
theorem run_g {x qual : Str} {pr : Arguments} {bd : List Stmt} {sc : Scope} {f : Addr} {fd : FuncData} {N ps : List Str} {k : Nat} {sp : Sp} (F : FunD K x qual pr bd sc [] [] f fd) (S : FnScope N ps sc)
    (hlen : ∀ vs H Q E, sp vs H Q E → vs.length = ps.length)
    (hb : ∀ (cv : Value) (B : Around) (es : List Env) (s : Shared) (H : Hp) (vs : List V) (Q : VK) (E : XK), B.guards = some [] → Room k (B.deeper (envOfC qual sc s.heap.objs.size f cv)) → sp vs H Q E →
      ∃ t, PSs (cxOf CX0 P w K mg base N qual sc f cv B es s H E) bd t ∧ t { nx := fun _ G => Q .non G, rt := Q } (start N vs) H) :
    RunG P w K mg base (k + 1) f fd ps sp := by
  obtain ⟨oc, od, dV, kV, doc, pm, an, cv, ct, sl, rfl, look, code, _, _⟩ := F.ex
  intro B es s H ar us vs Q E hg room z0 binds rv want
  have count := hlen _ _ _ _ want
  have inK : K.In s.heap := z0.mod.kin.keeps fun b o q => (z0.bs b o q).1
  have free : s.heap.NoLimit := z0.mod.nolimit.keeps fun b o q => (z0.bs b o q).1
  have kinds : ∀ y ∈ ps.zip us, sc.names.lookup y.1 = some .local ∨ (sc.names.lookup y.1 = some .cell ∧ ((cellsFrom (s.heap.objs.size + 1) sc.names []).lookup y.1).isSome = true) := by
    rintro ⟨n, v⟩ hy
    have hn := (List.of_mem_zip hy).1
    rcases S.par n hn with q | q
    · exact .inl q
    · exact .inr ⟨q, PySem.W.cellsFrom_some _ _ _ (.inl q)⟩
  have called := binds
  refine codeAny_call_function room.depth (inK _ _ look) rfl S.co S.gen rfl (PySem.W.codeRec_of inK code) (called _ _ _ _ ?_)
  refine wpAny_newFunctionEnv_cells S.kind kinds fun en hen s1 ic => ?_
  subst hen
  refine ⟨free.keeps ic.toInCall.keep, codeAny_func ?_⟩
  obtain ⟨t, ht, hq⟩ := hb cv B es s H vs Q E hg (room.deeper _) want
  have J0 : Inv (cxOf CX0 P w K mg base N qual sc f cv B es s H E) [] (start N vs) H s1 := inv_start S room.hd z0 count rv ic
  have out : ∀ {τ : L2.St} {G : Hp} {v : V} {u : Value} {s' : Shared}, Inv (cxOf CX0 P w K mg base N qual sc f cv B es s H E) [] τ G s' → RelV v u → Q v G → CE es P w H s Q u s' :=
    fun {_ G v _ _} J r q => ⟨v, G, J.os, J.bare, J.base, J.hok, r, q⟩
  have ran := ht.run [] s1 (start N vs) H _ J0 hq
  refine wpAny_mono ran (fun fl s' hs => ?_) fun _ _ hs => hs
  cases fl with
  | brk => exact hs.elim fun _ q => q.elim fun _ q => q.2.elim
  | cont => exact hs.elim fun _ q => q.elim fun _ q => q.2.elim
  | next => exact hs.elim fun τ q => q.elim fun G q => out (v := V.non) (u := Value.none) q.1 rfl q.2
  | ret u => exact hs.elim fun v q => q.elim fun τ q => q.elim fun G q => out q.1 q.2.1 q.2.2

/-- the law's own call, from such a promise -/
theorem end_g {mb : Str → Option Value} {k : Nat} {fa a : Addr} {fd : FuncData} {x : Str} {sp : Sp} {s1 : Shared} {vs : List Value} {ns : List Int}
    (inK : K.In s1.heap) (nsM : s1.heap.Ns mainGlobals mg) (nsB : s1.heap.Ns builtinsNs mb) (boot : ∀ y : Str, y ≠ "__name__" → mb y = bootBuiltins y) (free : s1.heap.NoLimit) (noG : s1.gens = #[])
    (at_ : s1.heap.get? a = some { cls := .type "list", data := .seq vs.toArray }) (whole : IntsAre vs ns) (few : ns.length ≤ sizeLine) (room : Room k callerA)
    (F : ∀ base : Heap, K.In base → base.Ns mainGlobals mg → RunG P w K mg base k fa fd [x] sp) (binds : ∀ (s : Shared) (u : Value), BindsTo s fd ⟨[u], []⟩ [(x, u)])
    (want : ∀ G : Hp, Only G → SqL K G a (ns.map V.int) → sp [.ref a] G (fun v _ => v = .bl true) fun _ _ _ => False) :
    codeAny (model P w) callerA (.call (.ref fa) ⟨[.ref a], []⟩) (fun r s' => r = .ok (.ret (.bool true)) ∧ OldK s1.heap s'.heap ∧ s'.os = s1.os ∧ AllBare s'.gens) s1 := by
  have vals := vals_ints whole
  have lens := whole.length
  have main : ∀ G : Hp, Only G → SqL K G a (ns.map V.int) → HOk P w G s1.heap → (∀ b, G b ≠ none → b = a) → (G a ≠ none → K.lookup a = none) →
      codeAny (model P w) callerA (.call (.ref fa) ⟨[.ref a], []⟩) (fun r s' => r = .ok (.ret (.bool true)) ∧ OldK s1.heap s'.heap ∧ s'.os = s1.os ∧ AllBare s'.gens) s1 := by
    intro G only seq hok alone apart
    have seen : ∀ {b : Addr} {o : Obj}, s1.heap.get? b = some o → G b = none → (hidT s1.heap G).get? b = some o := fun q n => hidT_get q n
    have hideD : ∀ {b : Addr} {o : Obj} {es : Array DictEntry} {ep : Nat}, s1.heap.get? b = some o → o.data = .dict es ep → G b = none := by
      intro b o es ep q d
      by_cases z : G b = none
      · exact z
      · have hb := alone b z
        subst hb
        rw [at_] at q
        cases q
        have d2 : Data.seq vs.toArray _ = Data.dict es ep := d
        cases d2
    have nsH : ∀ {b : Addr} {m : Str → Option Value}, s1.heap.Ns b m → (hidT s1.heap G).Ns b m := fun {b m} ⟨o, es, ep, q, d, r⟩ => ⟨o, es, ep, seen q (hideD q d), d, r⟩
    have inB : K.In (hidT s1.heap G) := by
      intro b o q
      refine seen (inK b o q) ?_
      by_cases z : G b = none
      · exact z
      · have hb := alone b z
        subst hb
        rw [apart z] at q
        cases q
    have md : Mod K mg (hidT s1.heap G) := ⟨inB, nsH nsM, ⟨mb, nsH nsB, boot⟩, free.elim fun mc q => ⟨mc, nsH q.1, q.2⟩⟩
    have z0 : Env0 P w K mg (hidT s1.heap G) callerA [] s1 G := by
      refine ⟨rfl, md, fun b o q => of_hidT q, Nat.le_of_eq (hidT_size _ _), trivial, fun b hb => ?_, hok, .of_eq noG⟩
      cases hb
    refine codeAny_mono (F _ inB (nsH nsM) callerA [] s1 G ⟨[.ref a], []⟩ [.ref a] [.ref a] _ _ rfl room z0 (binds s1 (.ref a)) (.cons rfl .nil) (want G only seq)) fun r s' h => ?_
    cases r with
    | error e => exact (show False from h).elim
    | ok fl =>
      cases fl with
      | next => exact (show False from h).elim
      | brk => exact (show False from h).elim
      | cont => exact (show False from h).elim
      | ret u =>
        obtain ⟨v, G', os, bare, un, hok', rel, q⟩ := h
        have hv : v = .bl true := q
        subst hv
        obtain rfl : u = Value.bool true := rel
        refine ⟨rfl, OldK.of_keep fun b o q => ?_, os, bare⟩
        rcases only b with z | ⟨ob, xs, z⟩
        · exact un.keep b o q z (by intro y; cases y) (by simp)
        · obtain ⟨q1, _⟩ := hok b _ z
          obtain ⟨q2, _⟩ := hok' b _ (un.frzs b ob _ z)
          rw [q] at q1
          cases q1
          exact q2
  by_cases hk : K.lookup a = none
  · refine main (fun b => if b = a then some (.frz { cls := .type "list", data := .seq vs.toArray } (.lst (ns.map V.int))) else none) ?_ (.inl (.inr ⟨{ cls := .type "list", data := .seq vs.toArray }, if_pos rfl⟩)) ?_ ?_ (fun _ => hk)
    · intro b
      by_cases hb : b = a
      · exact .inr ⟨_, _, if_pos hb⟩
      · exact .inl (if_neg hb)
    · intro b u z
      by_cases hb : b = a
      · have y := (if_pos hb).symm.trans z
        cases y
        subst hb
        exact ⟨at_, by rw [List.length_map]; exact few, vs, _, vals, at_⟩
      · have y := (if_neg hb).symm.trans z
        cases y
    · intro b z
      by_cases hb : b = a
      · exact hb
      · exact (z (if_neg hb)).elim
  · obtain ⟨o, ho⟩ := Option.ne_none_iff_exists'.mp hk
    have q := inK a o ho
    rw [at_] at q
    cases q
    refine main (fun _ => none) (fun _ => .inl rfl) (.inr ⟨_, vs.toArray, _, ho, rfl, rfl, rfl, by rw [List.size_toArray, lens]; exact few, by simpa using vals⟩) (fun b u z => ?_) (fun b z => (z rfl).elim) fun z => (z rfl).elim
    cases (show (none : Option HO) = some u from z)
end
/-- the law's head, for the goal that head_any leaves -/
theorem walk_g {l : PySem.W.OpenLaw} {n k : Nat} {q : Program} {loose : List Str} {XP : (Str → Option Value) → Heap → Prop} {YP : World → Heap → Prop} {d : DefRec} {x : Str}
    (hn : l.most = some n) (hn2 : n ≤ sizeLine) (hdf : d.params.defaults = []) (room : Room k callerA)
    (F : ∀ (w : World) (mg : Str → Option Value) (fa : Addr) (h : Heap), YP w h → h.Ns mainGlobals mg → mg d.name = some (.ref fa) → ∃ (K : PySem.W.Frag) (fd : FuncData) (sp : Sp), K.In h ∧
      (∀ (s : Shared) (u : Value), BindsTo s fd ⟨[u], []⟩ [(x, u)]) ∧ (∀ (G : Hp) (a : Addr) (ns : List Int), ns.length ≤ n → Only G → SqL K G a (ns.map V.int) → sp [.ref a] G (fun v _ => v = .bl true) fun _ _ _ => False) ∧
      ∀ base : Heap, K.In base → base.Ns mainGlobals mg → RunG l.prog w K mg base k fa fd [x] sp) :
    PySem.W.WalkO q loose XP YP l.row.toRowW d [] (fun f vs => PySem.call f vs) := by
  refine Att.attach_call hn hdf fun w _ s1 mg mb fa o pm cd doc a vs ns G Y _ _ _ hmg hobj hints hlen hg => ?_
  obtain ⟨K, fd, sp, inK, hb, hsp, hF⟩ := F w mg fa _ Y G.T.g hmg
  exact end_g inK G.T.g G.T.b G.T.builtins G.T.nolimit hg hobj hints (Nat.le_trans hlen hn2) room hF hb fun H hO hS => hsp H a ns hlen hO hS
end K04
/-! text F8 -/
set_option Elab.async false
set_option linter.all false
set_option maxRecDepth 100000
set_option maxHeartbeats 4000000
namespace K04
open PySem PySem.Spec PyProof.Rows L2 TL
local macro_rules
  | `(tactic| walk_at "st") => `(tactic| repeat (with_reducible first
    | refine i_seq ?_ | refine i_ret ?_ | refine i_asg ?_ | refine i_name ?_ | refine i_ifs ?_ | refine i_test ?_ | refine i_B ?_ | refine i_bl ?_ | refine i_var (by with_unfolding_all rfl) ?_ | refine i_c ?_
    | refine i_op ?_ | refine i_un ?_ | refine i_cb ?_ | refine i_cons ?_ | refine i_nil ?_ | refine i_call ?_ | refine i_and ?_ | refine i_or ?_ | refine i_not ?_ | refine i_andV ?_ | refine i_orV ?_ | refine i_notV ?_ | refine i_if ?_
    | refine i_tup ?_ | refine i_lst ?_ | refine i_sl ?_ | refine i_nopart ?_ | refine i_part ?_ | refine i_int ?_ | refine i_chain ?_ | refine i_I0 ?_ | refine i_par ?_ | refine i_two ?_ | refine i_bm ?_ | refine i_bm0 ?_ | refine i_m1 ?_ | refine i_tyS ?_ | refine i_str ?_
    | refine i_for ?_ | refine i_iTup ?_ | refine i_iList ?_ | refine i_iStr ?_ | refine i_iRng1 ?_ | refine i_iRng2 ?_ | refine i_iEnum ?_ | refine i_lc ?_ | refine i_yes ?_ | refine i_revL ?_ | refine i_fld ?_ | refine i_sfld ?_ | refine i_meth ?_ | refine i_make ?_ | refine i_isN ?_ | refine i_neg ?_ | refine i_notN ?_ | refine i_intB ?_ | refine i_intI ?_
    | refine i_next ?_ | refine i_drop ?_ | refine i_retN ?_ | refine i_gsub ?_ | refine i_ipI ?_ | refine i_aug (by with_unfolding_all rfl) ?_
    | refine i_eq (by with_unfolding_all rfl) ?_ | refine i_ne (by with_unfolding_all rfl) ?_))
abbrev N_law : List Str := ["_law_script", "_law_deck_here", "_law_wrong", "_law_turn", "_law_program_here", "_law_lines", "_law_many", "_law_text", "_law_found"]
theorem sc_law : FnScope N_law ["_law_script"] (defScope s_law) := ⟨rfl, rfl, rfl, by decide +kernel, rfl, by decide +kernel, by decide +kernel⟩
section
variable {P : Program} {w : World} {K : PySem.W.Frag} {mg : Str → Option Value} {base : Heap}
theorem i_tail {e f a b : TS} {D : Ends} {σ : L2.St} {H : Hp} (J : L2.St → Hp → Prop) (r : ∀ τ G, J τ G → b D τ G) (k : (∀ τ G, J τ G → b D τ G) → tSeq e (tSeq f (tSeq a b)) D σ H) : tSeq e (tSeq f (tSeq a b)) D σ H := k r
/-! the plain part -/
theorem runs_next {L : List (List Nat)} {S S' : List Pt} {i : Nat} {l : List Nat} (e : runR start0 L = some S) (hl : L[i]? = some l) (e2 : runR start0 (L.take i) = some S') : ∃ S'', rd S' l = some S'' := by
  have hi : i < L.length := (List.getElem?_eq_some_iff.mp hl).1
  have hsplit : L = L.take i ++ l :: L.drop (i + 1) := by
    conv => lhs; rw [← List.take_append_drop i L]
    rw [List.drop_eq_getElem_cons hi]
    rw [List.getElem?_eq_getElem hi] at hl
    rw [Option.some.inj hl]
  rw [hsplit, runR_app, e2] at e
  cases h : rd S' l with
  | some S'' => exact ⟨_, rfl⟩
  | none =>
    rw [show (some S').bind (fun S' => runR S' (l :: L.drop (i + 1))) = runR S' (l :: L.drop (i + 1)) from rfl, show runR S' (l :: L.drop (i + 1)) = (match rd S' l with | none => none | some S' => runR S' (L.drop (i + 1))) from rfl, h] at e
    cases e
theorem ends_of {H : Hp} {Q : VK} {L : List (List Nat)} {S : List Pt} (e : runR start0 L = some S) (t : lacksR S = true → TextAt H Q (L.length + 1))
    (o : lacksR S = false → Prog (K04.fin S) ∧ ∀ H' l v, Same H H' → H l = none → H' l = some (.lst [.str "ok", v]) → Dp K H' v (bpy (K04.fin S)) → Q (.ref l) H') : Ends4 K H Q L := by
  refine ⟨fun i l S' hl h => .inl (runs_next e hl h), fun S' h => ?_⟩
  rw [e] at h
  cases h
  cases hl : lacksR S with
  | true => exact .inl ⟨rfl, t hl⟩
  | false => exact .inr ⟨rfl, o hl⟩
theorem ends_bad {H : Hp} {Q : VK} {L : List (List Nat)} {S : List Pt} {x : List Nat} (e : runR start0 L = some S) (hx : x ∈ wrongs) (t : TextAt H Q (L.length + 1)) : Ends4 K H Q (L ++ [x]) := by
  have hbad := rd_wrong hx S
  refine ⟨fun i l S' hl h => ?_, fun S' h => ?_⟩
  · by_cases hi : i < L.length
    · rw [List.getElem?_append_left hi] at hl
      rw [List.take_append_of_le_length (by omega)] at h
      exact .inl (runs_next e hl h)
    · have hi2 : i = L.length := by
        have := (List.getElem?_eq_some_iff.mp hl).1
        rw [List.length_append] at this
        simp only [List.length_cons, List.length_nil] at this
        omega
      subst hi2
      rw [List.getElem?_append_right (Nat.le_refl _), Nat.sub_self] at hl
      cases hl
      rw [List.take_left'  rfl, e] at h
      cases h
      exact .inr ⟨hbad, t⟩
  · rw [runR_app, e] at h
    rw [show (some S).bind (fun S' => runR S' [x]) = (match rd S x with | none => none | some S' => runR S' []) from rfl, hbad] at h
    cases h
theorem waits_of {L : List (List Nat)} {S : List Pt} (e : runR start0 L = some S) (hn : L ≠ []) : (decide ((1 : Int) ∈ wRun [0] L) || opens (lastW L)) = lacksR S := by
  obtain ⟨_, _, h, _⟩ := waits_run L start0 S [0] wf0 wi0 e
  rw [h _ _ (List.dropLast_concat_getLast hn).symm]
  unfold lastW
  rw [List.getLast?_eq_some_getLast hn]
theorem joinL_more : ∀ (ls : List (List Nat)) (x : List Nat), ls ≠ [] → joinL [10] ls ++ [10] ++ x = joinL [10] (ls ++ [x])
  | [], x, h => absurd rfl h
  | [a], x, _ => by simp [joinL]
  | a :: b :: r, x, _ => by
    have := joinL_more (b :: r) x (by simp)
    simp only [List.cons_append, joinL, List.append_assoc] at this ⊢
    rw [this]
theorem join_more (ls : List (List Nat)) (x : List Nat) (hn : ls ≠ []) : joinT ls ++ Str.ofString "\n" ++ mk x = joinT (ls ++ [x]) := by
  refine ext_tl ?_
  have h1 : tl (joinT ls ++ Str.ofString "\n" ++ mk x) = tl (joinT ls) ++ tl (Str.ofString "\n") ++ tl (mk x) := by rw [tl_append, tl_append]
  have h2 : tl (Str.ofString "\n") = [10] := tl_nl
  rw [h2, tl_mk', tl_joinT, joinL_more _ _ hn] at h1
  exact h1.trans (tl_joinT _).symm
theorem wrong_ok {x : List Nat} (h : x ∈ wrongs) : LineOk x := by
  have := List.all_eq_true.mp wrongFacts x h
  simp only [Bool.and_eq_true, decide_eq_true_eq] at this
  exact ⟨nonl_of this.1.2, by omega⟩
theorem wrong_strs : ([.str "say n", .str "pay", .str "else if", .str "set x ", .str "  ", .str "  pass pass", .str "pay 1 + 1", .str "if rest 1 of 2", .str "repeat n"] ++ [.str "pay  n", .str "we or", .str "set pass 1", .str "if not", .str "x = 1", .str "stop stop", .str "they  "] : List V) = wrongs.map sV := by
  unfold wrongs
  simp only [List.map_cons, List.map_nil, List.cons_append, List.nil_append, sV, mk_cs]
theorem text_short : (List.range 200).all (fun n => decide ((PyData.shown (.list [.str "text", .int (n : Int)])).length ≤ 100000)) = true := by decide +kernel
def shownT (n : Nat) : Str := PyData.shown (.list [.str "text", .int (n : Int)])
theorem i_repr {H : Hp} {Q : VK} {l : Addr} {n : Nat} (h : H l = some (.lst [.str "text", .int (n : Int)])) (hn : n ≤ 150) (k : Q (.str (shownT n)) H) : rRepr K [.ref l] H Q := by
  refine ⟨l, .list [.str "text", .int (n : Int)], rfl, .lst (.inl (.inl h)) (.cons (.str _) (.cons (.int _) .nil)), ?_, rfl, by simp [PyData.depth, PyData.depthAll], ?_, k⟩
  · have : n.log2 ≤ n := Nat.log2_le_self n
    simp only [PyData.showable, PyData.showableAll, Bool.and_true, Bool.true_and, decide_eq_true_eq]
    show (Int.natAbs (n : Int)).log2 < 1920
    rw [Int.natAbs_natCast]
    omega
  · exact sz (of_decide_eq_true (List.all_eq_true.mp text_short n (List.mem_range.mpr (by omega))))
theorem dec_self (v : V) : (!decide (v = v)) = false := by rw [decide_eq_true rfl]; rfl
def sp_law : Sp := fun vs H Q _ => ∃ (a : Addr) (ns : List Int), vs = [.ref a] ∧ SqL K H a (ns.map V.int) ∧ ∀ H', Q (.bl true) H'
theorem ok_tail {D : Ends} {σ : L2.St} {H : Hp} {l : Addr} {v2 : V} {q : List Sm} {LS : List (List Nat)} (h8 : σ[8]? = some (some (.ref l))) (h7 : σ[7]? = some (some (.str (joinT (cs "program" :: LS))))) (e : H l = some (.lst [.str "ok", v2]))
    (dv : Dp K H v2 (bpy q)) (hp : Prog q) (hl : Sm.liness 0 q = LS) (k : ∀ H', Same H H' → D.nx σ H') :
    tIfS (tOr (tTest (tOp rNe (tOp (rIxL K) (tVar 8) (tC (.int 0))) (tC (.str "ok")))) (tTest (tOp rNe (tCall (sp_ptext (K := K)) [] E0 (tCons (tOp (rIxL K) (tVar 8) (tC (.int 1))) tNil)) (tVar 7)))) (tRet (tC (.bl false))) tNext D σ H := by
  with_reducible refine i_ifs ?_
  with_reducible refine i_or ?_
  with_reducible refine i_test ?_
  with_reducible refine i_op ?_
  with_reducible refine i_op ?_
  refine i_var h8 ?_
  walk_at "st"
  refine i_ixL (j := 0) (v := .str "ok") (.inl (.inl e)) rfl ?_
  walk_at "st"
  refine i_itf (dec_self _) ?_
  with_reducible refine i_test ?_
  with_reducible refine i_op ?_
  with_reducible refine i_call ?_
  with_reducible refine i_cons ?_
  with_reducible refine i_op ?_
  refine i_var h8 ?_
  walk_at "st"
  refine i_ixL (j := 1) (v := v2) (.inl (.inl e)) rfl ?_
  walk_at "st"
  refine ⟨v2, q, rfl, dv, hp, fun H2 s2 => ?_⟩
  refine i_var h7 ?_
  have eq : progL q = cs "program" :: LS := by rw [← hl]; rfl
  rw [eq]
  walk_at "st"
  refine i_itf (dec_self _) ?_
  walk_at "st"
  exact k _ s2
theorem ok_law (T : Txt w K mg) : ∃ fd, (∀ (s : Shared) (u : Value), BindsTo s fd ⟨[u], []⟩ [("_law_script", u)]) ∧ ∀ base : Heap, RunG P w K mg base 53 (He.ga K "law") fd ["_law_script"] (sp_law (K := K)) := by
  obtain ⟨fd, F⟩ := T.d_law
  refine ⟨fd, fun s v => FunD.bindsA (ps := ["_law_script"]) F (fun _ _ _ _ _ _ us hl => match us, hl with | [_], _ => rfl) s [v] rfl, fun base => ?_⟩
  have c__law_deck := ok_ldeck (P := P) (base := base) T
  have c__law_draw := ok_ldraw (P := P) (base := base) T
  have c__law_one := ok_lone (P := P) (base := base) T
  have c__law_names := ok_lnames (P := P) (base := base) T
  have c__law_program := ok_lprog (P := P) (base := base) T
  have c_program_text := ok_ptext (P := P) (base := base) T
  have c__law_parsed := ok_lparsed (P := P) (base := base) T
  have c__law_waits := ok_lwaits (P := P) (base := base) T
  refine run_g F sc_law (fun vs H Q E h => ?len) (fun cdv A outer s H vs Q E hgd hr h => ?run)
  case len =>
    obtain ⟨a, ns, rfl, _⟩ := h
    all_goals rfl
  refine ⟨_, PSs.nox (pss_cons (ps_set (i := 1) sc_law.nd rfl (by first | exact Or.inl rfl | exact Or.inr rfl) (pcl c__law_deck (hr.mono (by omega)) (pa_cons (pv 0) pa_nil)))
      (pss_cons (ps_set (i := 2) sc_law.nd rfl (by first | exact Or.inl rfl | exact Or.inr rfl) (pe_lst (pa_cons pe_str (pa_cons pe_str (pa_cons pe_str (pa_cons pe_str (pa_cons pe_str (pa_cons pe_str (pa_cons pe_str (pa_cons pe_str (pa_cons pe_str pa_nil)))))))))))
      (pss_cons (ps_set (i := 2) sc_law.nd rfl (by first | exact Or.inl rfl | exact Or.inr rfl) (pe_op op_cat (pv 2) (pe_lst (pa_cons pe_str (pa_cons pe_str (pa_cons pe_str (pa_cons pe_str (pa_cons pe_str (pa_cons pe_str (pa_cons pe_str pa_nil))))))))))
      (pss_cons (ps_for PassesOwn.never rfl (pi_range1 rfl T.f_range (pa_cons pe_int pa_nil)) (pg_name (i := 3) sc_law.nd rfl (by first | exact Or.inl rfl | exact Or.inr rfl)) (pss_cons (ps_set (i := 4) sc_law.nd rfl (by first | exact Or.inl rfl | exact Or.inr rfl) (pcl c__law_program (hr.mono (by omega)) (pa_cons (pv 1) (pa_cons (pcl c__law_names (hr.mono (by omega)) (pa_cons (pv 1) (pa_cons (pe_op op_add pe_int (pcl c__law_draw (hr.mono (by omega)) (pa_cons (pv 1) (pa_cons pe_int pa_nil)))) pa_nil))) (pa_cons pe_int pa_nil)))))
      (pss_cons (ps_set (i := 5) sc_law.nd rfl (by first | exact Or.inl rfl | exact Or.inr rfl) (show PE _ _ (tM1 rSplit _ _) from pe_split (pcl c_program_text (hr.mono (by omega)) (pa_cons (pv 4) pa_nil)) pe_str))
      (pss_one (ps_for PassesOwn.never rfl (pi_range2 rfl T.f_range (pa_cons pe_int (pa_cons (pe_op op_add (pe_callB call_lenX (by rfl) T.f_len (by decide +kernel) (pa_cons (pv 5) pa_nil)) pe_int) pa_nil))) (pg_name (i := 6) sc_law.nd rfl (by first | exact Or.inl rfl | exact Or.inr rfl)) (pss_cons (ps_set (i := 7) sc_law.nd rfl (by first | exact Or.inl rfl | exact Or.inr rfl) (show PE _ _ (tM1 (rJoin K) _ _) from pe_join pe_str (pe_slice sl_list (pv 5) po_none (po_some (pv 6)))))
      (pss_cons (ps_set (i := 8) sc_law.nd rfl (by first | exact Or.inl rfl | exact Or.inr rfl) (pcl c__law_parsed (hr.mono (by omega)) (pa_cons (pv 7) pa_nil)))
      (pss_cons (ps_if (PW.pt (pw_and (pt_cmpR op_gt (pv 6) pe_int (nomark _)) (pw_and1 (pt_val (pcl c__law_waits (hr.mono (by omega)) (pa_cons (pe_slice sl_list (pv 5) po_none (po_some (pv 6))) pa_nil)))))) (pss_one (ps_if (pt_cmpR op_ne (pe_callB (call_reprD hgd hr.units) (by rfl) T.f_repr (by decide +kernel) (pa_cons (pv 8) pa_nil)) (pe_callB (call_reprD hgd hr.units) (by rfl) T.f_repr (by decide +kernel) (pa_cons (pe_lst (pa_cons pe_str (pa_cons (pv 6) pa_nil))) pa_nil)) (nomark _)) (pss_one (ps_ret pe_bl)) pss_nil)) (pss_one (ps_if (PW.pt (pw_or (pt_cmpR op_ne (pe_ix ix_list (pv 8) pe_int (fun _ _ => rfl)) pe_str (nomark _)) (pw_or1 (pt_cmpR op_ne (pcl c_program_text (hr.mono (by omega)) (pa_cons (pe_ix ix_list (pv 8) pe_int (fun _ _ => rfl)) pa_nil)) (pv 7) (nomark _))))) (pss_one (ps_ret pe_bl)) pss_nil)))
      (pss_one (ps_if (pt_cmpR op_ne (pe_callB (call_reprD hgd hr.units) (by rfl) T.f_repr (by decide +kernel) (pa_cons (pcl c__law_parsed (hr.mono (by omega)) (pa_cons (pe_op op_addS (pe_op op_addS (pv 7) pe_str) (pcl c__law_one (hr.mono (by omega)) (pa_cons (pv 1) (pa_cons (pv 2) pa_nil)))) pa_nil)) pa_nil)) (pe_callB (call_reprD hgd hr.units) (by rfl) T.f_repr (by decide +kernel) (pa_cons (pe_lst (pa_cons pe_str (pa_cons (pv 6) pa_nil))) pa_nil)) (nomark _)) (pss_one (ps_ret pe_bl)) pss_nil))))))))))
      (pss_one (ps_ret pe_bl)))))), ?_⟩
  obtain ⟨a, ns, rfl, ha, kq⟩ := h
  walk_at "st"
  refine ⟨a, ns, rfl, ha, fun G1 D C s1 hD hC d1 => ?_⟩
  walk_at "st"
  refine i_new (by simp) fun W0 hW0 => ?_
  walk_at "st"
  refine i_new (by simp) fun W1 hW1 => ?_
  refine i_catL ((Same.new hW1) _ _ upd_same) upd_same (by simp) fun Wr hWr => ?_
  rw [wrong_strs]
  have s2 := Same.new (o := .lst [.str "say n", .str "pay", .str "else if", .str "set x ", .str "  ", .str "  pass pass", .str "pay 1 + 1", .str "if rest 1 of 2", .str "repeat n"]) hW0
  have s3 := Same.grow (o := .lst [.str "pay  n", .str "we or", .str "set pass 1", .str "if not", .str "x = 1", .str "stop stop", .str "they  "]) s2 hW1
  have nWr := (d1.same s3).fresh hWr
  have s4 := Same.grow (o := .lst (wrongs.map sV)) s3 hWr
  have d4 := d1.same s4
  walk_at "st"
  refine ⟨2, rfl, by omega, by omega, ?_⟩
  refine for_it (walk_range (lo := 0) (n := 2)) (fun j τ G => ∃ x3 x4 x5 x6 x7 x8, τ = [some (.ref a), some (.ref D), some (.ref Wr), x3, x4, x5, x6, x7, x8] ∧ Dk G D C (900000000 - j * 500000) ∧ G Wr = some (.lst (wrongs.map sV)) ∧ j ≤ 2)
    ⟨_, _, _, _, _, _, rfl, d4, upd_same, by omega⟩ (fun _ _ _ _ _ => trivial) ?_ ?_
  · rintro j x τ G G' hj ⟨x3, x4, x5, x6, x7, x8, rfl, dG, gW, _⟩ ⟨rfl, rfl⟩
    walk_at "st"
    refine ⟨D, C, 900000000 - j * 500000 - 1, 4, rfl, by omega, by omega, dG.less (by omega), fun r hr0 hr4 G5 k5 d5 => ?_⟩
    walk_at "st"
    refine ⟨D, C, 900000000 - j * 500000 - 31, 1 + r, rfl, by omega, by omega, d5.less (by omega), fun N G6 k6 d6 nm => ?_⟩
    walk_at "st"
    refine ⟨D, C, N, 900000000 - j * 500000 - 31 - cP, rfl, d6.less (by have := cP_le; omega), nm, fun v p hp G7 k7 d7 dv => ?_⟩
    have gW7 := k7 _ _ nWr (k6 _ _ nWr (k5 _ _ nWr gW))
    walk_at "st"
    refine ⟨v, p, rfl, dv, hp, fun G8 s8 => ?_⟩
    have gW8 := s8 _ _ gW7
    have d8 := d7.same s8
    obtain ⟨hok, hcount⟩ := progL_ok hp
    walk_at "st"
    refine i_split (by decide +kernel) (by have := joinT_len (k := 300) fun l hl => (hok l hl).2; omega) fun L hL => ?_
    rw [split_joinT (by simp [progL]) (fun l hl => (hok l hl).1), List.map_map]
    have s9 := Same.new (o := .lst ((progL p).map (V.str ∘ mk))) hL
    have nL := d8.fresh hL
    have d9 := d8.same s9
    have gW9 := s9 _ _ gW8
    have gL9 : upd G8 L (.lst ((progL p).map (V.str ∘ mk))) L = some (.lst ((progL p).map sV)) := upd_same
    generalize upd G8 L (.lst ((progL p).map (V.str ∘ mk))) = G9 at s9 d9 gW9 gL9 ⊢
    walk_at "st"
    refine i_lenL (.inl (.inl gL9)) ?_
    walk_at "st"
    rw [List.length_map]
    refine ⟨_, _, rfl, ⟨by omega, by omega, by omega, by omega⟩, ?_⟩
    have hcnt : (((progL p).length : Int) + 1 - 1).toNat = (progL p).length := by omega
    rw [hcnt]
    refine for_it (walk_range (lo := 1) (n := (progL p).length)) (fun i τ G => ∃ x6 x7 x8, τ = [some (.ref a), some (.ref D), some (.ref Wr), some (.int (0 + (j : Int))), some v, some (.ref L), x6, x7, x8] ∧ Dk G D C (900000000 - j * 500000 - 31 - cP - i) ∧ G Wr = some (.lst (wrongs.map sV)) ∧ G L = some (.lst ((progL p).map sV)))
      ⟨_, _, _, rfl, d9.less (by omega), gW9, gL9⟩ (fun _ _ _ _ _ => trivial) ?_ ?_
    · rintro i x τ G G' hi ⟨y6, y7, y8, rfl, dG, gW, gL⟩ ⟨rfl, rfl⟩
      have hpl : (progL p).length = (Sm.liness 0 p).length + 1 := rfl
      obtain ⟨S, hS, _, hfin⟩ := beginnings hp (m := i) (by omega)
      have hpre : (progL p).take (i + 1) = cs "program" :: (Sm.liness 0 p).take i := rfl
      have hlen : ((Sm.liness 0 p).take i).length = i := by rw [List.length_take]; omega
      have hlok : ∀ l ∈ (Sm.liness 0 p).take i, LineOk l := fun l hl => hok l (List.mem_cons_of_mem _ (List.mem_of_mem_take hl))
      generalize (Sm.liness 0 p).take i = LS at hS hfin hpre hlen hlok
      have hzero : i = 0 → lacksR S = false := by
        intro z
        rw [z] at hlen
        rw [List.length_eq_zero_iff.mp hlen] at hS
        cases hS
        rfl
      have hne : i ≠ 0 → LS ≠ [] := fun z y => z (by rw [← hlen, y]; rfl)
      have hall : ∀ l ∈ cs "program" :: LS, LineOk l := by rw [← hpre]; exact fun l hl => hok l (List.mem_of_mem_take hl)
      have hjl : (joinT (cs "program" :: LS)).length ≤ 60000 := by
        have := joinT_len (k := 300) fun l hl => (hall l hl).2
        simp only [List.length_cons] at this
        omega
      have ei : (1 + (i : Int)) = ((i + 1 : Nat) : Int) := by omega
      show gName 6 (V.int (1 + (i : Int))) _ _ _
      rw [ei]
      with_reducible refine i_name ?_
      refine i_tail (J := fun τ G => ∃ x8, τ = [some (.ref a), some (.ref D), some (.ref Wr), some (.int (0 + (j : Int))), some v, some (.ref L), some (.int ((i + 1 : Nat) : Int)), some (.str (joinT (cs "program" :: LS))), x8] ∧ Dk G D C (900000000 - j * 500000 - 31 - cP - i) ∧ G Wr = some (.lst (wrongs.map sV)) ∧ G L = some (.lst ((progL p).map sV))) ?_ fun rest => ?_
      · rintro τ G ⟨x8, rfl, dG, gW, gL⟩
        walk_at "st"
        have e1 : Str.length "\n" = 1 := by decide +kernel
        refine i_addS (by omega) ?_
        walk_at "st"
        refine ⟨D, C, 900000000 - j * 500000 - 31 - cP - (i + 1), dG.less (by have := cP_le; omega), .inl ⟨Wr, _, rfl, .inl (.inl gW), nWr, by simp [wrongs], by simp [wrongs], fun u hu G2 k2 d2 => ?_⟩⟩
        obtain ⟨x, hx, rfl⟩ := List.mem_map.mp hu
        have hxo := wrong_ok hx
        refine i_addS (by rw [len_add, len_mk x]; have := hxo.2; omega) ?_
        rw [join_more _ _ (by simp)]
        walk_at "st"
        refine ⟨LS ++ [x], rfl, fun l hl => ?_, by rw [List.length_append]; simp only [List.length_cons, List.length_nil]; omega, ends_bad hS hx fun H' l sH hl e => ?_⟩
        · rcases List.mem_append.mp hl with h | h
          · exact hlok l h
          · rw [List.mem_singleton] at h; rw [h]; exact hxo
        rw [hlen] at e
        walk_at "st"
        refine i_repr e (by omega) ?_
        walk_at "st"
        refine i_new (by simp) fun t ht => ?_
        walk_at "st"
        refine i_repr (n := i + 1) upd_same (by omega) ?_
        walk_at "st"
        refine i_itf (dec_self _) ?_
        walk_at "st"
        have sF := Same.grow (o := .lst [.str "text", .int ((i + 1 : Nat) : Int)]) sH ht
        exact ⟨_, _, _, by rw [← ei], d2.same sF, sF _ _ (k2 _ _ nWr gW), sF _ _ (k2 _ _ nL gL)⟩
      walk_at "st"
      refine i_slL (.inl (.inl gL)) fun q hq => ?_
      rw [cut_to, ← List.map_take, hpre]
      walk_at "st"
      have sq := Same.new (o := .lst ((cs "program" :: LS).map sV)) hq
      refine i_join (p := q) (ys := (cs "program" :: LS).map mk) (.inl (.inl (by rw [upd_same, List.map_map]; rfl))) ?_ ?_
      · have := sum_le (k := 300) fun l hl => (hall l hl).2
        have e2 : Str.length "\n" = 1 := by decide +kernel
        rw [List.length_map, e2]
        simp only [List.length_cons] at this ⊢
        omega
      show _
      walk_at "st"
      refine ⟨LS, rfl, hlok, by omega, ends_of hS (fun hl H' l sH hln e => ?_) fun hl => ⟨(hfin hl).1, fun H' l v2 sH hln e dv2 => ?_⟩⟩
      · rw [hlen] at e
        have sA := Same.trans sq sH
        have i0 : i ≠ 0 := fun z => by rw [hzero z] at hl; cases hl
        walk_at "st"
        refine i_ite (decide_eq_true (by omega)) ?_
        walk_at "st"
        refine i_slL (.inl (.inl (sA _ _ gL))) fun m hm => ?_
        rw [cut_to, ← List.map_take, hpre]
        walk_at "st"
        have sm := Same.new (o := .lst ((cs "program" :: LS).map sV)) hm
        refine ⟨m, LS, rfl, upd_same, fun l hl => (hlok l hl).2, by omega, (waits_run LS start0 S [0] wf0 wi0 hS).2.2.2, fun H2 s2 => ?_⟩
        rw [waits_of hS (hne i0), hl]
        walk_at "st"
        refine i_ite rfl ?_
        walk_at "st"
        have sB := Same.trans sm s2
        refine i_repr (sB _ _ e) (by omega) ?_
        walk_at "st"
        refine i_new (by simp) fun t ht => ?_
        walk_at "st"
        refine i_repr (n := i + 1) upd_same (by omega) ?_
        walk_at "st"
        refine i_itf (dec_self _) ?_
        with_reducible refine i_next ?_
        have sC := Same.grow (o := .lst [.str "text", .int ((i + 1 : Nat) : Int)]) (Same.trans sA sB) ht
        exact rest _ _ ⟨_, rfl, dG.same sC, sC _ _ gW, sC _ _ gL⟩
      · have sA := Same.trans sq sH
        obtain ⟨hpr, hls⟩ := hfin hl
        walk_at "st"
        by_cases i0 : i = 0
        · refine i_itf (decide_eq_false (by omega)) ?_
          refine i_itf rfl ?_
          have s0 : Same H' H' := fun _ _ h => h
          refine ok_tail (q := K04.fin S) (LS := LS) rfl rfl (s0 _ _ e) (dp_mono s0 dv2) hpr hls fun H3 s3 => rest _ _ ⟨_, rfl, dG.same (Same.trans sA (Same.trans s0 s3)), (Same.trans sA (Same.trans s0 s3)) _ _ gW, (Same.trans sA (Same.trans s0 s3)) _ _ gL⟩
        · refine i_ite (decide_eq_true (by omega)) ?_
          walk_at "st"
          refine i_slL (.inl (.inl (sA _ _ gL))) fun m hm => ?_
          rw [cut_to, ← List.map_take, hpre]
          walk_at "st"
          have sm := Same.new (o := .lst ((cs "program" :: LS).map sV)) hm
          refine ⟨m, LS, rfl, upd_same, fun l hl => (hlok l hl).2, by omega, (waits_run LS start0 S [0] wf0 wi0 hS).2.2.2, fun H2 s2 => ?_⟩
          rw [waits_of hS (hne i0), hl]
          walk_at "st"
          refine i_itf rfl ?_
          have sB := Same.trans sm s2
          refine ok_tail (q := K04.fin S) (LS := LS) rfl rfl (sB _ _ e) (dp_mono sB dv2) hpr hls fun H3 s3 => rest _ _ ⟨_, rfl, dG.same (Same.trans sA (Same.trans sB s3)), (Same.trans sA (Same.trans sB s3)) _ _ gW, (Same.trans sA (Same.trans sB s3)) _ _ gL⟩
    · rintro τ G ⟨y6, y7, y8, rfl, dG, gW, gL⟩
      walk_at "st"
      refine ⟨_, _, _, _, _, _, rfl, dG.less (by have := cP_le; omega), gW, by omega⟩
  · rintro τ G ⟨x3, x4, x5, x6, x7, x8, rfl, dG, gW, _⟩
    walk_at "st"
    exact kq _
end
end K04
/-! text G1 -/
set_option Elab.async false
set_option linter.all false
set_option maxRecDepth 100000
set_option maxHeartbeats 0
namespace K04
open PySem PySem.Spec PyProof.Rows L2
theorem txt_of {w : World} {K : PySem.W.Frag} {h : Heap} {mg : Str → Option Value} (X : K.In h) (G : h.Ns mainGlobals mg) (c : He.SaysT fa fn tabs w K) (m : ex K = true) : Txt w K mg := ⟨c, m, h, X, G⟩
theorem room53 : Room 53 callerA := ⟨rfl, by decide, by decide⟩
end K04
open PySem PySem.W PySem.Calls PyProof.Rows
theorem PySem.Challenge.cw_weandthey_k04_whole_beginnings_of_texts_holds : PySem.Challenge.rw_weandthey_k04_whole_beginnings_of_texts.Holds := by
  w_on
  o_law
  refine HandSHeadRun.head_any (r := OpenLaw.row PySem.Challenge.rw_weandthey_k04_whole_beginnings_of_texts) (q := view (OpenLaw.row PySem.Challenge.rw_weandthey_k04_whole_beginnings_of_texts).prog [85]) (H := K04.hk) (ob := K04.ob) (M := 6000)
    (loose := K04.loose) (d := HandSHeadRun.topDef (OpenLaw.row PySem.Challenge.rw_weandthey_k04_whole_beginnings_of_texts).prog 85) (kwd := []) K04.ob_eq (by kernel_rfl) (fun s => by kernel_rfl) K04.run (by kernel_rfl) (by kernel_rfl) (by kernel_rfl) (by rfl)
    (by first | assumption | decide +kernel) (by decide +kernel) ⟨rfl, rfl, rfl, rfl, rfl, by decide +kernel⟩ ?hw ?hc
  case hw => w_witness2
  case hc =>
    refine K04.walk_g (l := PySem.Challenge.rw_weandthey_k04_whole_beginnings_of_texts) (n := 63) (k := 53) (x := "_law_script") rfl (by decide) (by kernel_rfl) K04.room53 ?F
    intro w mg fa h Y G named
    obtain ⟨K, inK, c, m⟩ := Y
    have T : K04.Txt w K mg := K04.txt_of inK G c m
    have hmg : mg ("law" : PySem.Str) = some (.ref fa) := by
      have e : (HandSHeadRun.topDef (OpenLaw.row PySem.Challenge.rw_weandthey_k04_whole_beginnings_of_texts).prog 85).name = ("law" : PySem.Str) := by kernel_rfl
      rw [← e]
      exact named
    have same := hmg.symm.trans T.g_law
    cases same
    obtain ⟨fd, binds, good⟩ := K04.ok_law (P := (PySem.Challenge.rw_weandthey_k04_whole_beginnings_of_texts).prog) T
    exact ⟨K, fd, K04.sp_law (K := K), inK, binds, fun H a ns _ _ seq => ⟨a, ns, rfl, seq, fun _ => rfl⟩, fun base _ _ => good base⟩
